/- Part of the proof that the statement holds for every input that its row lets in: the contracts of the program's functions, printed by a program out of annotations; the statement itself stands at the end of the last part. -/
import Derived.Test.YtigideidmcmfbaaGreatDoorZS2
import Derived.Test.YtigideidmcmfbaaGreatDoorZA4
import Derived.Test.YtigideidmcmfbaaGreatDoorZA5
import Derived.Test.YtigideidmcmfbaaGreatDoorZA3
import Derived.Test.YtigideidmcmfbaaGreatDoorZS1
import Derived.Test.YtigideidmcmfbaaGreatDoorRows
import Derived.Test.YtigideidmcmfbaaGreatDoorCards
import Derived.Test.YtigideidmcmfbaaGreatDoorTie
set_option linter.unusedSimpArgs false
set_option linter.unusedVariables false
namespace Go.Proofs.YtigideidmcmfbaaGreatDoor
open Go Go.Aw
variable {kr : KR}
set_option maxHeartbeats 1000000 in
theorem ybt (l : List ByteArray) (hl : l.length ≤ 8796093022208) (s : ByteArray) : Pur Tryz.prog (GL kr) 18 [.pv (.slice (l.map .str)), .pv (.str s)] (.pv (.bool (memB l s))) := by
 rw [ye4]
 refine yx fun σ hgl => ?_
 refine yk tyOk Tryz.func18 rfl (by simp [Tryz.f18]) ?_
 refine sS ?_
 refine ya (sS ?_)
 refine yh (yo σ.objs.length σ.toks.length 0 [0, 1, 4] (fun k : Nat => [(5, .pv (.int .i64 ↑k))]) (fun k => σ) (fun k => k ≤ l.length ∧ NotYet (fun y => decide (y = s)) l k) (fun k => l.length - k) 0 (⟨Nat.zero_le _, .zero⟩) ⟨by simp [go_sem], rfl, by simp, by simp, by simp [go_sem], fun ob h => .inl (by simpa [go_sem] using h), by simp [go_sem]⟩ ?_)
 rintro k ⟨hk, hn⟩
 refine ya (sS ?_)
 refine aC (fun h0 => ?_) (fun h0 => ?_)
 ·have hlt : k < l.length := by simp at h0; omega
  have hw : IntKind.i64.wrap (↑k + 1) = (k : Int) + 1 := yv (by omega)
  obtain ⟨x, hx, hxm⟩ := ym hlt
  refine yg (ya (yh (sA (by simp [go_sem, hx] <;> rfl) ?_)))
  refine yc (by first | rfl | (simp [go_sem, hx] <;> rfl)) (fun h1 => ?_) (fun h1 => ?_)
  ·refine ya (aS ?_)
   refine yd (yj (yf (yf (yj (yf (eR ?_))))))
   have hany : (l.any fun y => decide (y = s)) = true := ZM (p := fun y => decide (y = s)) hx h1
   exact ⟨by simp only [hany]; simp [go_sem], by simp [go_sem]⟩
  ·refine yg (aS ?_)
   exact yq (k + 1) σ.objs.length σ.toks.length 0 (⟨hlt, hn.succ hx h1⟩) (by omega) ⟨by simp [go_sem], rfl, by simp, by simp, by simp [go_sem, hw], fun ob h => .inl (by simpa [go_sem, hx, hw] using h), by simp [go_sem]⟩
 ·have hke : k = l.length := by simp at h0; omega
  subst hke
  have hany := hn.any
  refine yp (yi (yi (yl (sS ?_))))
  refine yd (eR ?_)
  exact ⟨by simp only [hany]; simp [go_sem], by simp [go_sem]⟩

set_option maxHeartbeats 1000000 in
theorem ydl (d : D) (hf : formed d = true) : Pur Tryz.prog (GL kr) 149 [.pv (enc d)] (.pv (.bool (nmS d))) := by
 refine yx fun σ hgl => ?_
 refine yk tyOk Tryz.func149 rfl (by simp [Tryz.f149]) ?_
 refine sS ?_
 refine sG ?_
 refine aT 4 ?_
 refine yn 6 (by first | rfl | (simp [go_sem] <;> rfl)) (fun h0 => ?_) (fun h0 => ?_)
 ·refine aLG 2 6 true (by simp [go_sem] <;> rfl) ?_
  refine yZ 6 true true (by simp [go_sem]) rfl (by simp [go_sem]) rfl rfl (by simp [go_sem] <;> rfl) yl5 ((yiT d.text) _ (by exact hgl)) (by simp [go_sem] <;> rfl) (by simp [go_sem]) rfl rfl ?_
  refine aT 2 ?_
  refine ye (yd (eR ?_))
  exact ⟨by rw [← ydj hf]; simp only [h0, bE]; simp [go_sem], by simp [go_sem]⟩
 ·refine aK 3 6 true ?_
  refine aT 2 ?_
  refine ye (yd (eR ?_))
  exact ⟨by rw [← ydj hf]; simp only [h0, bG]; simp [go_sem], by simp [go_sem]⟩

set_option maxHeartbeats 1000000 in
theorem ycN (d : D) (hd : d.size ≤ 1000000000) (hf : ∀ x, x ∈ d.kids → formed x = true) : Pur Tryz.prog (GL kr) 168 [.pv (enc d)] (.tuple [.pv (if Zu d.kids = true then .nils else .slice ((d.kids.map D.text).map .str)), .pv (.bool (!Zu d.kids && d.kind == 3))]) := by
 have hkl := D.kids_length_lt d
 have ht0 : ((d.kids.map D.text).take 0) = [] := rfl
 refine yx fun σ hgl => ?_
 refine yk tyOk Tryz.func168 rfl (by simp [Tryz.f168]) ?_
 refine sS ?_
 refine sS ?_
 refine ya (sS ?_)
 refine zt 4 9 1 (by simp [go_sem] <;> rfl) ?_
 refine yh (yo σ.objs.length (σ.toks.length + 1) 1 [1, 2, 3] (fun k : Nat => [(4, .acc (((d.kids.map D.text).take k).map .str) σ.toks.length), (5, .pv (.int .i64 ↑k))]) (fun k => { σ with toks := σ.toks ++ [⟨k, 9, 1⟩] }) (fun k => k ≤ d.kids.length ∧ NotYet (YT d.kids) (List.range d.kids.length) k) (fun k => d.kids.length - k) 0 (⟨Nat.zero_le _, .zero⟩) ⟨by simp [go_sem, ht0], rfl, by simp, by simp, by simp [go_sem, ht0], fun ob h => .inl (by simpa [go_sem, ht0] using h), by simp [go_sem]⟩ ?_)
 rintro k ⟨hk, hn⟩
 refine ya (sS ?_)
 refine aC (fun h0 => ?_) (fun h0 => ?_)
 ·have hlt : k < d.kids.length := by simp at h0; omega
  have hw : IntKind.i64.wrap (↑k + 1) = (k : Int) + 1 := yv (by omega)
  obtain ⟨x, hx, hxm⟩ := ym hlt
  have hr : (List.range d.kids.length)[k]? = some k := by simp [hlt]
  have hba := yfL hx
  have hnx : ((d.kids.map D.text).take (k + 1)).map PV.str = (((d.kids.map D.text).take k).map .str) ++ [.str x.text] := by rw [yA (x := x.text) (by rw [List.getElem?_map, hx]; rfl)]; simp
  have hm : min k d.kids.length = k := by omega
  have hb2 : (k + 1) * 16 ≤ 140737488355328 := by omega
  refine yg (ya (yh (ya (sG ?_))))
  refine aL 5 (by simp [go_sem, hx] <;> rfl) ?_
  refine aG ygx ((ydl x (hf x hxm)) _ (by exact hgl)) ?_
  refine aT 2 ?_
  refine yn 20 (by first | rfl | (simp [go_sem, hx, hm, hb2] <;> rfl)) (fun h1 => ?_) (fun h1 => ?_)
  ·refine aK 8 20 false ?_
   refine aT 1 ?_
   refine ye (yc (b := true) (by simp [go_sem]) (fun h => ?_) (fun h => ?_))
   rotate_left
   ·cases h
   refine sS ?_
   refine yd (yf (yj (yf (yf (yj (yf ?_))))))
   have hlb : Zu d.kids = true := List.any_eq_true.2 ⟨k, List.mem_range.2 hlt, by rw [hba]; simp only [h1, bA]⟩
   refine eR ?_
   exact ⟨by rw [hlb]; simp [go_sem], by simp [go_sem]⟩
  ·refine aLG 7 20 false (by simp [go_sem, hx] <;> rfl) ?_
   refine yZ 20 false false (by simp [go_sem]) rfl (by simp [go_sem]) rfl rfl (by simp [go_sem] <;> rfl) yfs ((ybt ((d.kids.map D.text).take k) (by simp; omega) x.text) _ (by exact hgl)) (by simp [go_sem] <;> rfl) (by simp [go_sem]) rfl rfl ?_
   refine aT 1 ?_
   refine ye (yc (by first | rfl | (simp [go_sem, hx, hm, hb2] <;> rfl)) (fun h2 => ?_) (fun h2 => ?_))
   ·refine ya (aS ?_)
    refine yd (yf (yj (yf (yf (yj (yf ?_))))))
    have hlb : Zu d.kids = true := List.any_eq_true.2 ⟨k, List.mem_range.2 hlt, by rw [hba]; simp only [h1, h2, bB]⟩
    refine eR ?_
    exact ⟨by rw [hlb]; simp [go_sem], by simp [go_sem]⟩
   ·refine yg (aR (by simp [go_sem, hx, hm, hb2] <;> rfl) ?_)
    refine aS ?_
    exact yq (k + 1) σ.objs.length (σ.toks.length + 1) 1 (⟨hlt, hn.succ hr (by rw [hba]; simp only [h1, h2, bD])⟩) (by omega) ⟨by simp [go_sem, hnx], rfl, by simp, by simp, by simp [go_sem, hw, hnx], fun ob h => .inl (by simpa [go_sem, hx, hm, hb2, hw, hnx] using h), by simp [go_sem]⟩
 ·have hke : k = d.kids.length := by simp at h0; omega
  subst hke
  have hlb : Zu d.kids = false := NotYet.any (by simpa using hn)
  have hta : (d.kids.map D.text).take d.kids.length = d.kids.map D.text := List.take_of_length_le (by simp)
  refine yp (yi (yi (yl (ya (yE tyOk tySz 5 (by kernel_rfl) (by decide) ?_)))))
  refine yu 5 (by simp [go_sem] <;> rfl) ?_
  refine yC ?_
  refine aT 1 ?_
  refine ye (yd (eR ?_))
  exact ⟨by rw [hlb]; simp [go_sem], by simp [go_sem]⟩

set_option maxHeartbeats 1000000 in
theorem ycU (d : D) (hd : d.size ≤ 1000000000) (hf : formed d = true) : Pur Tryz.prog (GL kr) 148 [.pv (enc d)] (.pv (.bool (z7 d 8))) := by
 have hkl := D.kids_length_lt d
 rw [Z0]
 refine yx fun σ hgl => ?_
 refine yk tyOk Tryz.func148 rfl (by simp [Tryz.f148]) ?_
 refine sS ?_
 refine sG ?_
 refine aT 1 ?_
 refine aG yee ((ycN d hd (fun x hx => yO hf hx)) _ (by exact hgl)) ?_
 refine aT 5 ?_
 refine ye (sG ?_)
 refine aT 2 ?_
 refine yn 11 (by first | rfl | (simp [go_sem] <;> rfl)) (fun h0 => ?_) (fun h0 => ?_)
 ·have hlb : Zu d.kids = false := by have := h0; simp at this; exact this.1
  have hk3 : (d.kind == 3) = true := by have := h0; simp at this; simpa using this.2
  refine aLG 3 11 true (by simp [go_sem, hlb, Bool.false_eq_true] <;> rfl) ?_
  refine aT 2 ?_
  refine ye (yd (eR ?_))
  exact ⟨by simp only [hlb, hk3, bE, bF, bJ]; simp [go_sem], by simp [go_sem]⟩
 ·refine aK 3 11 true ?_
  refine aT 2 ?_
  refine ye (yd (eR ?_))
  exact ⟨by simp only [h0, bG]; simp [go_sem], by simp [go_sem]⟩

set_option maxHeartbeats 1000000 in
theorem yof (d : D) (hd : d.size ≤ 1000000000) (hf : formed d = true) : Pur Tryz.prog (GL kr) 150 [.pv (enc d)] (.pv (.bool (zI d))) := by
 have hkl := D.kids_length_lt d
 rw [yph]
 have ht0 : ((d.kids.map fun x => x.head.text).take 0) = [] := rfl
 refine yx fun σ hgl => ?_
 refine yk tyOk Tryz.func150 rfl (by simp [Tryz.f150]) ?_
 refine sS ?_
 refine sS ?_
 refine ya (sS ?_)
 refine zt 3 9 1 (by simp [go_sem] <;> rfl) ?_
 refine yh (yo σ.objs.length (σ.toks.length + 1) 1 [1, 2] (fun k : Nat => [(3, .acc (((d.kids.map fun x => x.head.text).take k).map .str) σ.toks.length), (4, .pv (.int .i64 ↑k))]) (fun k => { σ with toks := σ.toks ++ [⟨k, 9, 1⟩] }) (fun k => k ≤ d.kids.length ∧ NotYet (gBad d.kids) (List.range d.kids.length) k) (fun k => d.kids.length - k) 0 (⟨Nat.zero_le _, .zero⟩) ⟨by simp [go_sem, ht0], rfl, by simp, by simp, by simp [go_sem, ht0], fun ob h => .inl (by simpa [go_sem, ht0] using h), by simp [go_sem]⟩ ?_)
 rintro k ⟨hk, hn⟩
 refine ya (sS ?_)
 refine aC (fun h0 => ?_) (fun h0 => ?_)
 ·have hlt : k < d.kids.length := by simp at h0; omega
  have hw : IntKind.i64.wrap (↑k + 1) = (k : Int) + 1 := yv (by omega)
  obtain ⟨x, hx, hxm⟩ := ym hlt
  have hr : (List.range d.kids.length)[k]? = some k := by simp [hlt]
  have hba := ypM hx
  have hnx : ((d.kids.map fun x => x.head.text).take (k + 1)).map PV.str = (((d.kids.map fun x => x.head.text).take k).map .str) ++ [.str x.head.text] := by rw [yA (x := x.head.text) (by rw [List.getElem?_map, hx]; rfl)]; simp
  have hm : min k d.kids.length = k := by omega
  have hb2 : (k + 1) * 16 ≤ 140737488355328 := by omega
  refine yg (ya (yh (sA (by simp [go_sem, hx] <;> rfl) ?_)))
  refine ya (sG ?_)
  refine aT 4 ?_
  refine yn 21 (by first | rfl | (simp [go_sem, hx, hm, hb2] <;> rfl)) (fun h1 => ?_) (fun h1 => ?_)
  ·refine aK 4 21 false ?_
   refine aT 2 ?_
   refine aK 6 27 false ?_
   refine aT 2 ?_
   refine aK 7 35 false ?_
   refine aT 2 ?_
   refine aK 6 44 false ?_
   refine aT 1 ?_
   refine ye (yc (b := true) (by simp [go_sem]) (fun h => ?_) (fun h => ?_))
   rotate_left
   ·cases h
   refine sS ?_
   refine yd (yf (yj (yf (yf (yj (yf ?_))))))
   have hlb : (List.range d.kids.length).any (gBad d.kids) = true := List.any_eq_true.2 ⟨k, List.mem_range.2 hlt, by rw [hba]; first | (rw [hh0, hd1]; simp only [Bool.not_true, hx, hm, hb2, h0, h1, bA, bB, bC, bD, bE, bF, bG, bH, bI, bJ, Bool.false_eq_true, if_true, if_false]; done) | (simp only [h1, bA]; done)⟩
   refine eR ?_
   exact ⟨by rw [hlb]; simp [go_sem], by simp [go_sem]⟩
  ·refine aLG 4 21 false (by simp [go_sem] <;> rfl) ?_
   refine aT 2 ?_
   refine yn 27 (by first | rfl | (simp [go_sem, hx, hm, hb2] <;> rfl)) (fun h2 => ?_) (fun h2 => ?_)
   ·refine aK 6 27 false ?_
    refine aT 2 ?_
    refine aK 7 35 false ?_
    refine aT 2 ?_
    refine aK 6 44 false ?_
    refine aT 1 ?_
    refine ye (yc (b := true) (by simp [go_sem]) (fun h => ?_) (fun h => ?_))
    rotate_left
    ·cases h
    refine sS ?_
    refine yd (yf (yj (yf (yf (yj (yf ?_))))))
    have hlb : (List.range d.kids.length).any (gBad d.kids) = true := List.any_eq_true.2 ⟨k, List.mem_range.2 hlt, by rw [hba]; first | (rw [hh0, hd1]; simp only [Bool.not_true, hx, hm, hb2, h0, h1, h2, bA, bB, bC, bD, bE, bF, bG, bH, bI, bJ, Bool.false_eq_true, if_true, if_false]; done) | (simp only [h1, h2, bA, bB]; done)⟩
    refine eR ?_
    exact ⟨by rw [hlb]; simp [go_sem], by simp [go_sem]⟩
   ·have hl3 : x.kids.length = 3 := by have h := h2; simp at h; omega
    obtain ⟨y1, hy1, hy1m⟩ := ym (l := x.kids) (k := 1) (by omega)
    have hd1 : d1 x.kids = y1 := yD hy1
    obtain ⟨y0, hy0, hy0m⟩ := ym (l := x.kids) (k := 0) (by omega)
    have hh0 : x.head = y0 := ya0 hy0
    have hxs := D.size_kid_lt hxm
    have hy1s := D.size_kid_lt hy1m
    have hfx := yO hf hxm
    refine aLG 4 27 false (by simp [go_sem, hy0] <;> rfl) ?_
    refine yZ 27 false false (by simp [go_sem]) rfl (by simp [go_sem]) rfl rfl (by simp [go_sem] <;> rfl) ygx ((ydl y0 (yO hfx hy0m)) _ (by exact hgl)) (by simp [go_sem] <;> rfl) (by simp [go_sem]) rfl rfl ?_
    refine aLG 1 27 false (by simp [go_sem] <;> rfl) ?_
    refine aT 2 ?_
    refine yn 35 (by first | rfl | (simp [go_sem, hx, hm, hb2, hy0, hy1] <;> rfl)) (fun h3 => ?_) (fun h3 => ?_)
    ·refine aK 7 35 false ?_
     refine aT 2 ?_
     refine aK 6 44 false ?_
     refine aT 1 ?_
     refine ye (yc (b := true) (by simp [go_sem]) (fun h => ?_) (fun h => ?_))
     rotate_left
     ·cases h
     refine sS ?_
     refine yd (yf (yj (yf (yf (yj (yf ?_))))))
     have hlb : (List.range d.kids.length).any (gBad d.kids) = true := List.any_eq_true.2 ⟨k, List.mem_range.2 hlt, by rw [hba]; first | (rw [hh0, hd1]; simp only [h1, h2, h3, bA, bB, bC, bD]; done) | (simp only [Bool.not_true, hx, hm, hb2, hy0, hy1, h0, h1, h2, h3, bA, bB, bC, bD, bE, bF, bG, bH, bI, bJ, Bool.false_eq_true, if_true, if_false]; done)⟩
     refine eR ?_
     exact ⟨by rw [hlb]; simp [go_sem], by simp [go_sem]⟩
    ·refine aLG 6 35 false (by simp [go_sem, hy0] <;> rfl) ?_
     refine yZ 35 false false (by simp [go_sem]) rfl (by simp [go_sem]) rfl rfl (by simp [go_sem] <;> rfl) yfs ((ybt ((d.kids.map fun x => x.head.text).take k) (by simp; omega) y0.text) _ (by exact hgl)) (by simp [go_sem] <;> rfl) (by simp [go_sem]) rfl rfl ?_
     refine aT 2 ?_
     refine yn 44 (by first | rfl | (simp [go_sem, hx, hm, hb2, hy0, hy1] <;> rfl)) (fun h4 => ?_) (fun h4 => ?_)
     ·refine aK 6 44 false ?_
      refine aT 1 ?_
      refine ye (yc (b := true) (by simp [go_sem]) (fun h => ?_) (fun h => ?_))
      rotate_left
      ·cases h
      refine sS ?_
      refine yd (yf (yj (yf (yf (yj (yf ?_))))))
      have hlb : (List.range d.kids.length).any (gBad d.kids) = true := List.any_eq_true.2 ⟨k, List.mem_range.2 hlt, by rw [hba]; first | (rw [hh0, hd1]; simp only [h1, h2, h3, h4, bB, bC, bD]; done) | (simp only [Bool.not_true, hx, hm, hb2, hy0, hy1, h0, h1, h2, h3, h4, bA, bB, bC, bD, bE, bF, bG, bH, bI, bJ, Bool.false_eq_true, if_true, if_false]; done)⟩
      refine eR ?_
      exact ⟨by rw [hlb]; simp [go_sem], by simp [go_sem]⟩
     ·refine aLG 4 44 false (by simp [go_sem, hy1] <;> rfl) ?_
      refine yZ 44 false false (by simp [go_sem]) rfl (by simp [go_sem]) rfl rfl (by simp [go_sem] <;> rfl) ygn ((ycU y1 (by omega) (yO hfx hy1m)) _ (by exact hgl)) (by simp [go_sem] <;> rfl) (by simp [go_sem]) rfl rfl ?_
      refine aLG 1 44 false (by simp [go_sem] <;> rfl) ?_
      refine aT 1 ?_
      refine ye (yc (by first | rfl | (simp [go_sem, hx, hm, hb2, hy0, hy1] <;> rfl)) (fun h5 => ?_) (fun h5 => ?_))
      ·refine ya (aS ?_)
       refine yd (yf (yj (yf (yf (yj (yf ?_))))))
       have hlb : (List.range d.kids.length).any (gBad d.kids) = true := List.any_eq_true.2 ⟨k, List.mem_range.2 hlt, by rw [hba]; first | (rw [hh0, hd1]; simp only [h1, h2, h3, h4, h5, bB, bD]; done) | (simp only [Bool.not_true, hx, hm, hb2, hy0, hy1, h0, h1, h2, h3, h4, h5, bA, bB, bC, bD, bE, bF, bG, bH, bI, bJ, Bool.false_eq_true, if_true, if_false]; done)⟩
       refine eR ?_
       exact ⟨by rw [hlb]; simp [go_sem], by simp [go_sem]⟩
      ·refine yg (aR (by simp [go_sem, hm, hb2, hy0] <;> rfl) ?_)
       refine aS ?_
       exact yq (k + 1) σ.objs.length (σ.toks.length + 1) 1 (⟨hlt, hn.succ hr (by rw [hba, hh0, hd1]; simp only [h1, h2, h3, h4, h5, bD])⟩) (by omega) ⟨by simp [go_sem, hnx, hh0], rfl, by simp, by simp, by simp [go_sem, hw, hnx, hh0], fun ob h => .inl (by simpa [go_sem, hx, hm, hb2, hy0, hy1, hw, hnx, hh0] using h), by simp [go_sem]⟩
 ·have hke : k = d.kids.length := by simp at h0; omega
  subst hke
  have hlb : (List.range d.kids.length).any (gBad d.kids) = false := NotYet.any (by simpa using hn)
  have hta : (d.kids.map fun x => x.head.text).take d.kids.length = d.kids.map fun x => x.head.text := List.take_of_length_le (by simp)
  refine yp (yi (yi (yl (sG ?_))))
  refine aT 4 ?_
  refine yn 63 (by first | rfl | (simp [go_sem, hta] <;> rfl)) (fun h6 => ?_) (fun h6 => ?_)
  ·refine aLG 3 63 true (by simp [go_sem] <;> rfl) ?_
   refine aT 2 ?_
   refine yn 68 (by first | rfl | (simp [go_sem, hta] <;> rfl)) (fun h7 => ?_) (fun h7 => ?_)
   ·refine aLG 3 68 true (by simp [go_sem] <;> rfl) ?_
    refine aT 2 ?_
    refine ye (yd (eR ?_))
    exact ⟨by rw [hlb]; simp only [h6, h7, bE, bF, bJ]; simp [go_sem], by simp [go_sem]⟩
   ·refine aK 3 68 true ?_
    refine aT 2 ?_
    refine ye (yd (eR ?_))
    exact ⟨by rw [hlb]; simp only [h6, h7, bF, bG, bH, bJ]; simp [go_sem], by simp [go_sem]⟩
  ·refine aK 3 63 true ?_
   refine aT 2 ?_
   refine aK 3 68 true ?_
   refine aT 2 ?_
   refine ye (yd (eR ?_))
   exact ⟨by rw [hlb]; simp only [h6, bG, bH, bJ]; simp [go_sem], by simp [go_sem]⟩

set_option maxHeartbeats 4000000 in
theorem ya3 (d : D) (hd : d.size ≤ 1000000000) (hf : formed d = true) : Pur Tryz.prog (GL kr) 105 [.pv (enc d)] (.pv (.int .i64 (yb d))) := by
 have hkd := yjR hf
 have hwp := yn4 d.text
 refine yx fun σ hgl => ?_
 refine yk tyOk Tryz.func105 rfl (by simp [Tryz.f105]) ?_
 refine sS ?_
 refine ya (yh (sS ?_))
 refine aC (fun h0 => ?_) (fun h0 => ?_)
 ·refine ya (aS ?_)
  refine yd (yj (yf (eR ?_)))
  exact ⟨by simp [go_sem, yb, h0]; done, by simp [go_sem]⟩
 ·refine ya (yN ?_)
  refine aT 4 ?_
  refine yn 14 (by first | rfl | (simp [go_sem] <;> rfl)) (fun h1 => ?_) (fun h1 => ?_)
  ·have hnm := yjI hf (by simpa using h1)
   refine aLG 2 14 true (by simp [go_sem] <;> rfl) ?_
   refine yZ 14 true true (by simp [go_sem]) rfl (by simp [go_sem]) rfl rfl (by simp [go_sem] <;> rfl) yl5 ((yiT d.text) _ (by exact hgl)) (by simp [go_sem] <;> rfl) (by simp [go_sem]) rfl rfl ?_
   refine aL 2 (by simp [go_sem, hnm] <;> rfl) ?_
   refine ye (yc (by first | rfl | (simp [go_sem, hnm] <;> rfl)) (fun h2 => ?_) (fun h2 => ?_))
   ·refine ya (aS ?_)
    refine yd (yj (yf (eR ?_)))
    exact ⟨by simp [go_sem, yb, hwp, h0, h1, h2]; done, by simp [go_sem]⟩
   ·refine ya (yN ?_)
    refine aT 4 ?_
    refine yn 23 (by first | rfl | (simp [go_sem, hnm] <;> rfl)) (fun h3 => ?_) (fun h3 => ?_)
    ·refine aK 4 23 false ?_
     refine aT 2 ?_
     refine ye (yc (b := true) (by simp [go_sem]) (fun h => ?_) (fun h => ?_))
     rotate_left
     ·cases h
     refine sS ?_
     refine yd (yj (yf (eR ?_)))
     exact ⟨by simp [go_sem, yb, hwp, h0, h1, h2]; done, by simp [go_sem]⟩
    ·exfalso; simp only [beq_iff_eq, bne_eq_false_iff_eq] at *; omega
  ·refine aK 3 14 true ?_
   refine aT 2 ?_
   refine ye (yc (b := false) (by simp [go_sem]) (fun h => ?_) (fun h => ?_))
   ·cases h
   refine sG ?_
   refine aT 4 ?_
   refine yn 23 (by first | rfl | (simp [go_sem] <;> rfl)) (fun h4 => ?_) (fun h4 => ?_)
   ·exfalso; simp only [beq_eq_false_iff_ne, ne_eq, bne_iff_ne] at *; omega
   ·refine aLG 4 23 false (by simp [go_sem] <;> rfl) ?_
    refine aT 2 ?_
    refine ye (aC (fun h5 => ?_) (fun h5 => ?_))
    ·refine ya (aS ?_)
     refine yd (yj (yf (eR ?_)))
     exact ⟨by simp [go_sem, yb, h0, h1, h5]; done, by simp [go_sem]⟩
    ·have hne : d.kids ≠ [] := by intro e; have h := h5; rw [e] at h; revert h; decide
     obtain ⟨x0, r0, hks⟩ := ydL hne
     have hx0 : d.kids[0]? = some x0 := by rw [hks]; rfl
     have hh := ygT hks
     obtain ⟨f, hf0⟩ : ∃ z, z = zu x0.text := ⟨_, rfl⟩
     have hwf := hf0.symm
     have hrg := ybH x0.text
     rw [hwf] at hrg
     refine yg (sS ?_)
     refine sS ?_
     refine ya (sG ?_)
     refine aL 7 (by simp [go_sem, hx0] <;> rfl) ?_
     refine yn 38 (by first | rfl | (simp [go_sem, hx0] <;> rfl)) (fun h6 => ?_) (fun h6 => ?_)
     ·have hk0 := h6
      refine aLG 5 38 true (by simp [go_sem, hx0] <;> rfl) ?_
      refine yZ 38 true true (by simp [go_sem]) rfl (by simp [go_sem]) rfl rfl (by simp [go_sem] <;> rfl) yim ((ycT x0.text) _ (by exact hgl)) (by simp [go_sem] <;> rfl) (by simp [go_sem]) rfl rfl ?_
      refine aLG 1 38 true (by simp [go_sem, yr, hwf] <;> rfl) ?_
      refine aT 1 ?_
      refine ye (yc (by first | rfl | (simp [go_sem, hx0, yr, hwf] <;> rfl)) (fun h7 => ?_) (fun h7 => ?_))
      ·have hff : Yr d = f := by unfold Yr; rw [hh, if_pos hk0, hwf]
       refine yN ?_
       refine aL 5 (by simp [go_sem, hx0] <;> rfl) ?_
       refine aG yim ((ycT x0.text) _ (by exact hgl)) ?_
       refine aL 1 (by simp [go_sem, yr, yr, hwf] <;> rfl) ?_
       refine ye (ya (sS ?_))
       refine yh (sS ?_)
       refine yc (by first | rfl | (simp [go_sem, hx0, yr, hwf, yr, hwf] <;> rfl)) (fun h8 => ?_) (fun h8 => ?_)
       ·exfalso; have h := h8; simp at h; omega
       ·refine ya (aS ?_)
        refine yc (by first | rfl | (simp [go_sem, hx0, yr, hwf, yr, hwf] <;> rfl)) (fun h9 => ?_) (fun h9 => ?_)
        ·have ef : f = 3 := by simpa using h9
         subst ef
         refine aS ?_
         refine ya (sS ?_)
         refine yc (by first | rfl | (simp [go_sem, hx0, yr, hwf, yr, hwf] <;> rfl)) (fun h10 => ?_) (fun h10 => ?_)
         ·have hq := h10
          first | rw [Bool.not_eq_true'] at hq | skip
          refine sS ?_
          refine yd (yf (eR ?_))
          exact ⟨by simp [go_sem, yb, fm3, h0, h1, h5, hff, hq]; done, by simp [go_sem]⟩
         ·have hq := h10
          first | rw [Bool.not_eq_false'] at hq | skip
          refine yg (sS ?_)
          refine yd (eR ?_)
          exact ⟨by simp [go_sem, yb, fm3, h0, h1, h5, hff, hq]; done, by simp [go_sem]⟩
        ·refine ya (aS ?_)
         refine yc (by first | rfl | (simp [go_sem, hx0, yr, hwf, yr, hwf] <;> rfl)) (fun h11 => ?_) (fun h11 => ?_)
         ·have ef : f = 4 := by simpa using h11
          subst ef
          refine aS ?_
          refine ya (sS ?_)
          refine yc (by first | rfl | (simp [go_sem, hx0, yr, hwf, yr, hwf] <;> rfl)) (fun h12 => ?_) (fun h12 => ?_)
          ·have hq := h12
           first | rw [Bool.not_eq_true'] at hq | skip
           refine sS ?_
           refine yd (yf (eR ?_))
           exact ⟨by simp [go_sem, yb, fm4, h0, h1, h5, hff, hq]; done, by simp [go_sem]⟩
          ·have hq := h12
           first | rw [Bool.not_eq_false'] at hq | skip
           refine yg (sS ?_)
           refine yd (eR ?_)
           exact ⟨by simp [go_sem, yb, fm4, h0, h1, h5, hff, hq]; done, by simp [go_sem]⟩
         ·refine ya (aS ?_)
          refine yc (by first | rfl | (simp [go_sem, hx0, yr, hwf, yr, hwf] <;> rfl)) (fun h13 => ?_) (fun h13 => ?_)
          ·have ef : f = 5 := by simpa using h13
           subst ef
           refine yN ?_
           refine aT 3 ?_
           refine yn 70 (by first | rfl | (simp [go_sem, hx0, yr, hwf, yr, hwf] <;> rfl)) (fun h14 => ?_) (fun h14 => ?_)
           ·have hlk : d.kids.length = 3 := by have h := h14; simp at h; omega
            obtain ⟨x1, hx1, hx1m⟩ := ym (l := d.kids) (k := 1) (by omega)
            have hd1 : d1 d.kids = x1 := yD hx1
            have hxs := D.size_kid_lt hx1m
            have hfx1 := yO hf hx1m
            refine aLG 4 70 true (by simp [go_sem, hx1] <;> rfl) ?_
            refine yZ 70 true true (by simp [go_sem]) rfl (by simp [go_sem]) rfl rfl (by simp [go_sem] <;> rfl) ygn ((ycU x1 (by omega) hfx1) _ (by exact hgl)) (by simp [go_sem] <;> rfl) (by simp [go_sem]) rfl rfl ?_
            refine aT 2 ?_
            refine ye (ya (sS ?_))
            refine yc (by first | rfl | (simp [go_sem, hx0, yr, hwf, yr, hwf, hx1] <;> rfl)) (fun h15 => ?_) (fun h15 => ?_)
            ·have hq := h15
             first | rw [Bool.not_eq_true'] at hq | skip
             refine sS ?_
             refine yd (yf (eR ?_))
             exact ⟨by simp [go_sem, yb, fm5, h0, h1, h5, hff, h14, hd1, hq]; done, by simp [go_sem]⟩
            ·have hq := h15
             first | rw [Bool.not_eq_false'] at hq | skip
             refine yg (sS ?_)
             refine yd (eR ?_)
             exact ⟨by simp [go_sem, yb, fm5, h0, h1, h5, hff, h14, hd1, hq]; done, by simp [go_sem]⟩
           ·refine aK 5 70 true ?_
            refine aT 2 ?_
            refine ye (ya (sS ?_))
            refine yc (b := true) (by simp [go_sem]) (fun h => ?_) (fun h => ?_)
            rotate_left
            ·cases h
            refine sS ?_
            refine yd (yf (eR ?_))
            exact ⟨by simp [go_sem, yb, fm5, h0, h1, h5, hff, h14]; done, by simp [go_sem]⟩
          ·refine ya (aS ?_)
           refine yc (by first | rfl | (simp [go_sem, hx0, yr, hwf, yr, hwf] <;> rfl)) (fun h16 => ?_) (fun h16 => ?_)
           ·have ef : f = 6 := by simpa using h16
            subst ef
            refine yN ?_
            refine aT 3 ?_
            refine yn 81 (by first | rfl | (simp [go_sem, hx0, yr, hwf, yr, hwf] <;> rfl)) (fun h17 => ?_) (fun h17 => ?_)
            ·have hlk : d.kids.length = 4 := by have h := h17; simp at h; omega
             obtain ⟨x1, hx1, hx1m⟩ := ym (l := d.kids) (k := 1) (by omega)
             have hd1 : d1 d.kids = x1 := yD hx1
             have hxs := D.size_kid_lt hx1m
             have hfx1 := yO hf hx1m
             refine aLG 4 81 true (by simp [go_sem, hx1] <;> rfl) ?_
             refine yZ 81 true true (by simp [go_sem]) rfl (by simp [go_sem]) rfl rfl (by simp [go_sem] <;> rfl) ygx ((ydl x1 hfx1) _ (by exact hgl)) (by simp [go_sem] <;> rfl) (by simp [go_sem]) rfl rfl ?_
             refine aT 2 ?_
             refine ye (ya (sS ?_))
             refine yc (by first | rfl | (simp [go_sem, hx0, yr, hwf, yr, hwf, hx1] <;> rfl)) (fun h18 => ?_) (fun h18 => ?_)
             ·have hq := h18
              first | rw [Bool.not_eq_true'] at hq | skip
              refine sS ?_
              refine yd (yf (eR ?_))
              exact ⟨by simp [go_sem, yb, fm6, h0, h1, h5, hff, h17, hd1, hq]; done, by simp [go_sem]⟩
             ·have hq := h18
              first | rw [Bool.not_eq_false'] at hq | skip
              refine yg (sS ?_)
              refine yd (eR ?_)
              exact ⟨by simp [go_sem, yb, fm6, h0, h1, h5, hff, h17, hd1, hq]; done, by simp [go_sem]⟩
            ·refine aK 5 81 true ?_
             refine aT 2 ?_
             refine ye (ya (sS ?_))
             refine yc (b := true) (by simp [go_sem]) (fun h => ?_) (fun h => ?_)
             rotate_left
             ·cases h
             refine sS ?_
             refine yd (yf (eR ?_))
             exact ⟨by simp [go_sem, yb, fm6, h0, h1, h5, hff, h17]; done, by simp [go_sem]⟩
           ·refine ya (aS ?_)
            refine yc (by first | rfl | (simp [go_sem, hx0, yr, hwf, yr, hwf] <;> rfl)) (fun h19 => ?_) (fun h19 => ?_)
            ·have ef : f = 7 := by simpa using h19
             subst ef
             refine yN ?_
             refine aT 3 ?_
             refine yn 92 (by first | rfl | (simp [go_sem, hx0, yr, hwf, yr, hwf] <;> rfl)) (fun h20 => ?_) (fun h20 => ?_)
             ·have hlk : d.kids.length = 3 := by have h := h20; simp at h; omega
              obtain ⟨x1, hx1, hx1m⟩ := ym (l := d.kids) (k := 1) (by omega)
              have hd1 : d1 d.kids = x1 := yD hx1
              have hxs := D.size_kid_lt hx1m
              have hfx1 := yO hf hx1m
              refine aLG 4 92 true (by simp [go_sem, hx1] <;> rfl) ?_
              refine yZ 92 true true (by simp [go_sem]) rfl (by simp [go_sem]) rfl rfl (by simp [go_sem] <;> rfl) yqh ((yof x1 (by omega) hfx1) _ (by exact hgl)) (by simp [go_sem] <;> rfl) (by simp [go_sem]) rfl rfl ?_
              refine aT 2 ?_
              refine ye (ya (sS ?_))
              refine yc (by first | rfl | (simp [go_sem, hx0, yr, hwf, yr, hwf, hx1] <;> rfl)) (fun h21 => ?_) (fun h21 => ?_)
              ·have hq := h21
               first | rw [Bool.not_eq_true'] at hq | skip
               refine sS ?_
               refine yd (yf (eR ?_))
               exact ⟨by simp [go_sem, yb, fm7, h0, h1, h5, hff, h20, hd1, hq]; done, by simp [go_sem]⟩
              ·have hq := h21
               first | rw [Bool.not_eq_false'] at hq | skip
               refine yg (sS ?_)
               refine yd (eR ?_)
               exact ⟨by simp [go_sem, yb, fm7, h0, h1, h5, hff, h20, hd1, hq]; done, by simp [go_sem]⟩
             ·refine aK 5 92 true ?_
              refine aT 2 ?_
              refine ye (ya (sS ?_))
              refine yc (b := true) (by simp [go_sem]) (fun h => ?_) (fun h => ?_)
              rotate_left
              ·cases h
              refine sS ?_
              refine yd (yf (eR ?_))
              exact ⟨by simp [go_sem, yb, fm7, h0, h1, h5, hff, h20]; done, by simp [go_sem]⟩
            ·refine ya (aS ?_)
             refine yc (by first | rfl | (simp [go_sem, hx0, yr, hwf, yr, hwf] <;> rfl)) (fun h22 => ?_) (fun h22 => ?_)
             ·have ef : f = 8 := by simpa using h22
              subst ef
              refine aS ?_
              refine ya (sS ?_)
              refine yc (by first | rfl | (simp [go_sem, hx0, yr, hwf, yr, hwf] <;> rfl)) (fun h23 => ?_) (fun h23 => ?_)
              ·have hq := h23
               first | rw [Bool.not_eq_true'] at hq | skip
               refine sS ?_
               refine yd (yf (eR ?_))
               exact ⟨by simp [go_sem, yb, fm8, h0, h1, h5, hff, hq]; done, by simp [go_sem]⟩
              ·have hq := h23
               first | rw [Bool.not_eq_false'] at hq | skip
               refine yg (sS ?_)
               refine yd (eR ?_)
               exact ⟨by simp [go_sem, yb, fm8, h0, h1, h5, hff, hq]; done, by simp [go_sem]⟩
             ·refine ya (aS ?_)
              refine yc (by first | rfl | (simp [go_sem, hx0, yr, hwf, yr, hwf] <;> rfl)) (fun h24 => ?_) (fun h24 => ?_)
              ·have ef : f = 9 := by simpa using h24
               subst ef
               refine yN ?_
               refine aT 3 ?_
               refine yn 107 (by first | rfl | (simp [go_sem, hx0, yr, hwf, yr, hwf] <;> rfl)) (fun h25 => ?_) (fun h25 => ?_)
               ·have hlk : d.kids.length = 3 := by have h := h25; simp at h; omega
                obtain ⟨x1, hx1, hx1m⟩ := ym (l := d.kids) (k := 1) (by omega)
                have hd1 : d1 d.kids = x1 := yD hx1
                have hxs := D.size_kid_lt hx1m
                have hfx1 := yO hf hx1m
                refine aLG 4 107 true (by simp [go_sem, hx1] <;> rfl) ?_
                refine yZ 107 true true (by simp [go_sem]) rfl (by simp [go_sem]) rfl rfl (by simp [go_sem] <;> rfl) ygn ((ycU x1 (by omega) hfx1) _ (by exact hgl)) (by simp [go_sem] <;> rfl) (by simp [go_sem]) rfl rfl ?_
                refine aT 2 ?_
                refine yn 114 (by first | rfl | (simp [go_sem, hx0, yr, hwf, yr, hwf, hx1] <;> rfl)) (fun h26 => ?_) (fun h26 => ?_)
                ·refine aLG 7 114 true (by simp [go_sem, hx1] <;> rfl) ?_
                 refine aT 2 ?_
                 refine ye (ya (sS ?_))
                 refine yc (by first | rfl | (simp [go_sem, hx0, yr, hwf, yr, hwf, hx1] <;> rfl)) (fun h27 => ?_) (fun h27 => ?_)
                 ·have hq := h27
                  first | rw [Bool.not_eq_true'] at hq | skip
                  refine sS ?_
                  refine yd (yf (eR ?_))
                  exact ⟨by simp [go_sem, yb, fm9, h0, h1, h5, hff, h25, hd1, h26, hq]; done, by simp [go_sem]⟩
                 ·have hq := h27
                  first | rw [Bool.not_eq_false'] at hq | skip
                  refine yg (sS ?_)
                  refine yd (eR ?_)
                  exact ⟨by simp [go_sem, yb, fm9, h0, h1, h5, hff, h25, hd1, h26, hq]; done, by simp [go_sem]⟩
                ·refine aK 7 114 true ?_
                 refine aT 2 ?_
                 refine ye (ya (sS ?_))
                 refine yc (b := true) (by simp [go_sem]) (fun h => ?_) (fun h => ?_)
                 rotate_left
                 ·cases h
                 refine sS ?_
                 refine yd (yf (eR ?_))
                 exact ⟨by simp [go_sem, yb, fm9, h0, h1, h5, hff, h25, hd1, h26]; done, by simp [go_sem]⟩
               ·refine aK 5 107 true ?_
                refine aT 2 ?_
                refine aK 7 114 true ?_
                refine aT 2 ?_
                refine ye (ya (sS ?_))
                refine yc (b := true) (by simp [go_sem]) (fun h => ?_) (fun h => ?_)
                rotate_left
                ·cases h
                refine sS ?_
                refine yd (yf (eR ?_))
                exact ⟨by simp [go_sem, yb, fm9, h0, h1, h5, hff, h25]; done, by simp [go_sem]⟩
              ·exfalso; simp only [beq_eq_false_iff_ne, ne_eq, decide_eq_true_eq] at *; omega
      ·have hf00 : f = 0 := by have h := h7; simp at h; omega
       have hff : Yr d = 0 := by unfold Yr; rw [hh, if_pos hk0, hwf, hf00]
       refine yg (ya (sS ?_))
       refine yh (sS ?_)
       refine yc (by first | rfl | (simp [go_sem, hx0, yr, hwf] <;> rfl)) (fun h28 => ?_) (fun h28 => ?_)
       ·refine aS ?_
        refine ya (sS ?_)
        refine yc (by first | rfl | (simp [go_sem, hx0, yr, hwf] <;> rfl)) (fun h29 => ?_) (fun h29 => ?_)
        ·have hq := h29
         first | rw [Bool.not_eq_true'] at hq | skip
         refine sS ?_
         refine yd (yf (eR ?_))
         exact ⟨by simp [go_sem, yb, h0, h1, h5, hff, hq]; done, by simp [go_sem]⟩
        ·have hq := h29
         first | rw [Bool.not_eq_false'] at hq | skip
         refine yg (sS ?_)
         refine yd (eR ?_)
         exact ⟨by simp [go_sem, yb, h0, h1, h5, hff, hq]; done, by simp [go_sem]⟩
       ·first | (cases h28; done) | (simp at h28; done)
     ·have hff : Yr d = 0 := by unfold Yr; rw [hh, if_neg (by rw [h6]; decide)]
      refine aK 7 38 true ?_
      refine aT 1 ?_
      refine ye (yc (b := false) (by simp [go_sem]) (fun h => ?_) (fun h => ?_))
      ·cases h
      refine yg (ya (sS ?_))
      refine yh (sS ?_)
      refine yc (by first | rfl | (simp [go_sem, hx0] <;> rfl)) (fun h30 => ?_) (fun h30 => ?_)
      ·refine aS ?_
       refine ya (sS ?_)
       refine yc (by first | rfl | (simp [go_sem, hx0] <;> rfl)) (fun h31 => ?_) (fun h31 => ?_)
       ·have hq := h31
        first | rw [Bool.not_eq_true'] at hq | skip
        refine sS ?_
        refine yd (yf (eR ?_))
        exact ⟨by simp [go_sem, yb, h0, h1, h5, hff, hq]; done, by simp [go_sem]⟩
       ·have hq := h31
        first | rw [Bool.not_eq_false'] at hq | skip
        refine yg (sS ?_)
        refine yd (eR ?_)
        exact ⟨by simp [go_sem, yb, h0, h1, h5, hff, hq]; done, by simp [go_sem]⟩
      ·first | (cases h30; done) | (simp at h30; done)

end Go.Proofs.YtigideidmcmfbaaGreatDoor

namespace Go.Proofs.YtigideidmcmfbaaGreatDoor
open Go Go.Aw
variable {kr : KR}
def pthP (p : List Int) : PV := .slice (ipv p)
@[go_sem] theorem yk4 (p : List Int) : (pthP p).cells = [pthP p] := rfl
@[go_sem] theorem ys2 (p : List Int) : (pthP p).nrm = pthP p := rfl
@[go_sem] theorem ysS (l : List (List Int)) : yX 1 (l.map pthP) = true := by simp [yX, yk4]
set_option maxHeartbeats 1000000 in
theorem ybA (d : D) (hd : d.size ≤ 100000000) (hf : formed d = true) : Pur Tryz.prog (GL kr) 68 [.pv (enc d)] (.pv (.slice ((prts d).map pthP))) := by
 have hkl := D.kids_length_lt d
 have hsl := y4 d
 have ht0 : ((prts d).map pthP).take 0 = [] := rfl
 have hnxt := fun (k : Nat) (p : List Int) (h : (prts d)[k]? = some p) => yA (l := (prts d).map pthP) (k := k) (x := pthP p) (by rw [List.getElem?_map, h]; rfl)
 refine yx fun σ hgl => ?_
 refine yk tyOk Tryz.func68 rfl (by simp [Tryz.f68]) ?_
 refine sS ?_
 refine sS ?_
 refine ya (sG ?_)
 refine aT 1 ?_
 refine aG yb2 ((ya3 d (by omega) hf) _ (by exact hgl)) ?_
 refine ye (yh (sS ?_))
 refine aC (fun h0 => ?_) (fun h0 => ?_)
 ·refine ya (aS ?_)
  refine yd (yj (yf (eR ?_)))
  have hk : yb d = 4 := by simpa using h0
  exact ⟨by rw [yo5 hk (yqV hk)]; simp [go_sem, pthP, ipv], by simp [go_sem]⟩
 ·refine ya (sS ?_)
  refine aC (fun h1 => ?_) (fun h1 => ?_)
  ·refine yg (yc (b := true) (by simp [go_sem, h1]) (fun h => ?_) (fun h => ?_))
   rotate_left
   ·cases h
   refine sS ?_
   refine yd (yj (yf (eR ?_)))
   have hk : yb d = 5 := by simpa using h1
   exact ⟨by rw [ykn (.inl hk)]; simp [go_sem, pthP, ipv], by simp [go_sem]⟩
  ·refine aS ?_
   refine aC (fun h2 => ?_) (fun h2 => ?_)
   ·refine ya (aS ?_)
    refine yd (yj (yf (eR ?_)))
    have hk : yb d = 9 := by simpa using h2
    exact ⟨by rw [ykn (.inr hk)]; simp [go_sem, pthP, ipv], by simp [go_sem]⟩
   ·refine ya (aS ?_)
    refine aC (fun h3 => ?_) (fun h3 => ?_)
    ·refine ya (aS ?_)
     refine yd (yj (yf (eR ?_)))
     have hk : yb d = 6 := by simpa using h3
     exact ⟨by rw [ynU hk]; simp [go_sem, pthP, ipv], by simp [go_sem]⟩
    ·refine ya (aS ?_)
     refine aC (fun h4 => ?_) (fun h4 => ?_)
     ·refine ya (aS ?_)
      refine yd (yj (yf (eR ?_)))
      have hk : yb d = 8 := by simpa using h4
      exact ⟨by rw [ynN hk (yqM hk)]; simp [go_sem, pthP, ipv], by simp [go_sem]⟩
     ·refine ya (aS ?_)
      refine aC (fun h5 => ?_) (fun h5 => ?_)
      ·have hk : yb d = 7 := by simpa using h5
       have hlen := hsl.1 (by omega)
       obtain ⟨x1, hx1, hx1m⟩ := ym (l := d.kids) (k := 1) (by omega)
       have hd1 : d1 d.kids = x1 := yD hx1
       have hxs := D.size_kid_lt hx1m
       have hxl := D.kids_length_lt x1
       have hfx1 := yO hf hx1m
       have hlst := ymD hk
       have hget := fun (k : Nat) => yok (d := d) (k := k) hk
       rw [hd1] at hlst hget
       refine ya (sS ?_)
       refine zt 3 44 1 (by simp [go_sem] <;> rfl) ?_
       refine yh (yo σ.objs.length (σ.toks.length + 1) 1 [1, 2, 7] (fun k : Nat => [(3, .acc (((prts d).map pthP).take k) σ.toks.length), (4, .pv (.int .i64 ↑k))]) (fun k => { σ with toks := σ.toks ++ [⟨k, 44, 1⟩] }) (fun k => k ≤ x1.kids.length) (fun k => x1.kids.length - k) 0 (Nat.zero_le _) ⟨by simp [go_sem, ht0], rfl, by simp, by simp, by simp [go_sem, ht0], fun ob h => .inl (by simpa [go_sem, hx1, ht0] using h), by simp [go_sem]⟩ ?_)
       intro k hk
       refine ya (sA (by simp [go_sem, hx1] <;> rfl) ?_)
       refine yc (by first | rfl | (simp [go_sem, hx1] <;> rfl)) (fun h6 => ?_) (fun h6 => ?_)
       ·have hlt : k < x1.kids.length := by simp at h6; omega
        have hw : IntKind.i64.wrap (↑k + 1) = (k : Int) + 1 := yv (by omega)
        obtain ⟨x, hx, hxm⟩ := ym hlt
        have hm : min k (prts d).length = k := by omega
        have hb2 : (k + 1) * 24 ≤ 140737488355328 := by omega
        have hnx : ((prts d).map pthP).take (k + 1) = ((prts d).map pthP).take k ++ [.slice [.int .i64 1, .int .i64 (k : Int), .int .i64 2]] := hnxt k _ (hget k hlt)
        refine yg (ya (yh (aR (by simp [go_sem, hm, hb2] <;> rfl) ?_)))
        refine aS ?_
        exact yq (k + 1) σ.objs.length (σ.toks.length + 1) 1 (hlt) (by omega) ⟨by simp [go_sem, hnx], rfl, by simp, by simp, by simp [go_sem, hw, hnx], fun ob h => .inl (by simpa [go_sem, hx1, hx, hm, hb2, hw, hnx] using h), by simp [go_sem]⟩
       ·have hke : k = x1.kids.length := by simp at h6; omega
        subst hke
        have hm : min x1.kids.length (prts d).length = x1.kids.length := by omega
        have hb2 : (x1.kids.length + 1) * 24 ≤ 140737488355328 := by omega
        have hfin : ((prts d).map pthP).take x1.kids.length ++ [.slice [.int .i64 2]] = (prts d).map pthP := by have h := hnxt _ _ hlst.1; rw [List.take_of_length_le (by rw [List.length_map]; omega)] at h; exact h.symm
        refine yp (yi (yi (yl (sA (by simp [go_sem, hm, hb2, hfin] <;> rfl) ?_))))
        refine yd (yj (yf (eR ?_)))
        exact ⟨by simp [go_sem], by simp [go_sem]⟩
      ·refine ya (aS ?_)
       refine aC (fun h7 => ?_) (fun h7 => ?_)
       ·have hk : yb d = 10 := by simpa using h7
        have hpl := ymg hk
        have hget := fun (k : Nat) => yn8 (d := d) (k := k) hk
        refine sS ?_
        refine zt 3 44 1 (by simp [go_sem] <;> rfl) ?_
        refine yh (yo σ.objs.length (σ.toks.length + 1) 1 [1, 2] (fun k : Nat => [(3, .acc (((prts d).map pthP).take k) σ.toks.length), (5, .pv (.int .i64 ↑k))]) (fun k => { σ with toks := σ.toks ++ [⟨k, 44, 1⟩] }) (fun k => k ≤ d.kids.length) (fun k => d.kids.length - k) 0 (Nat.zero_le _) ⟨by simp [go_sem, ht0], rfl, by simp, by simp, by simp [go_sem, ht0], fun ob h => .inl (by simpa [go_sem, ht0] using h), by simp [go_sem]⟩ ?_)
        intro k hk
        refine ya (sS ?_)
        refine aC (fun h8 => ?_) (fun h8 => ?_)
        ·have hlt : k < d.kids.length := by simp at h8; omega
         have hw : IntKind.i64.wrap (↑k + 1) = (k : Int) + 1 := yv (by omega)
         obtain ⟨x, hx, hxm⟩ := ym hlt
         have hm : min k (prts d).length = k := by omega
         have hb2 : (k + 1) * 24 ≤ 140737488355328 := by omega
         have hnx : ((prts d).map pthP).take (k + 1) = ((prts d).map pthP).take k ++ [.slice [.int .i64 (k : Int)]] := hnxt k _ (hget k hlt)
         refine yg (ya (yh (aR (by simp [go_sem, hm, hb2] <;> rfl) ?_)))
         refine aS ?_
         exact yq (k + 1) σ.objs.length (σ.toks.length + 1) 1 (hlt) (by omega) ⟨by simp [go_sem, hnx], rfl, by simp, by simp, by simp [go_sem, hw, hnx], fun ob h => .inl (by simpa [go_sem, hx, hm, hb2, hw, hnx] using h), by simp [go_sem]⟩
        ·have hke : k = d.kids.length := by simp at h8; omega
         subst hke
         have hfin : ((prts d).map pthP).take d.kids.length = (prts d).map pthP := List.take_of_length_le (by rw [List.length_map]; omega)
         refine yp (yi (yi (yl (sA (by simp [go_sem, hfin] <;> rfl) ?_))))
         refine yd (eR ?_)
         exact ⟨by simp [go_sem], by simp [go_sem]⟩
       ·have hpn : prts d = [] := ymw (by simp only [beq_eq_false_iff_ne, ne_eq] at *; omega)
        refine yg (sS ?_)
        refine yd (eR ?_)
        exact ⟨by rw [hpn]; simp [go_sem], by simp [go_sem]⟩

set_option maxHeartbeats 1000000 in
theorem yrS (d x : D) (hd : d.size ≤ 100000000) (p : List Int) (hx : d.sub p = some x) : Pur Tryz.prog (GL kr) 31 [.pv (enc d), .pv (.slice (ipv p))] (.tuple [.pv (enc x), .pv (.bool true)]) := by
 have hsz := yiG hx
 have h0 : d.sub (p.take 0) = some d := rfl
 have hxp := D.size_pos x
 refine yx fun σ hgl => ?_
 refine yk tyOk Tryz.func31 rfl (by simp [Tryz.f31]) ?_
 refine sS ?_
 refine ya (sS ?_)
 refine yh (ybj σ.objs.length σ.toks.length 2 [1, 2, 4, 5] (fun i : D × Nat => [(6, .pv (.int .i64 ↑i.2))]) (fun i : D × Nat => [[.pv (.int .i64 i.1.kind), .pv (.int .i64 i.1.num), .pv (.str i.1.text), .pv (.slice (i.1.kids.map enc))], [.pv (.int .i64 0), .pv (.int .i64 0), .pv (.str ⟨#[]⟩), .pv .nils]]) (fun i => σ) (fun i => i.2 ≤ p.length ∧ d.sub (p.take i.2) = some i.1) (fun i => p.length - i.2) (d, 0) (⟨Nat.zero_le _, h0⟩) ⟨by simp [go_sem], by simp [go_sem], by simp, by simp, by simp [go_sem], fun ob h => .inl (by simpa [go_sem, ze] using h), by simp [go_sem]⟩ ?_)
 rintro i ⟨hik, hic⟩
 refine ya (sA (by simp [go_sem, ze] <;> rfl) ?_)
 refine yc (by first | rfl | (simp [go_sem, ze] <;> rfl)) (fun h1 => ?_) (fun h1 => ?_)
 ·have hlt : i.2 < p.length := by have h := h1; simp at h; omega
  obtain ⟨j, y, hj, hj0, hjl, hy, hyn⟩ := yow hx hlt hic
  have hyl := (List.getElem?_eq_some_iff.1 hy).1
  have hyg : i.1.kids[j.toNat] = y := (List.getElem?_eq_some_iff.1 hy).2
  have hpj : (ipv p)[i.2]? = some (.int .i64 j) := by unfold ipv; rw [List.getElem?_map, hj]; rfl
  have hw : IntKind.i64.wrap ((i.2 : Int) + 1) = (i.2 : Int) + 1 := yv (by omega)
  have hd0 : decide (j < 0) = false := decide_eq_false (by omega)
  have hd2 : decide ((i.1.kids.length : Int) ≤ j) = false := decide_eq_false (by omega)
  refine yg (ya (yh (ya (ya (yE tyOk tySz 13 (by kernel_rfl) (by decide) ?_)))))
  refine yu 6 (by simp [go_sem, hpj, hd0] <;> rfl) ?_
  refine zS 18 (by first | rfl | (simp [go_sem, ze, hpj, hd0, hd2, hj0, hjl, hy, hyg] <;> rfl)) (fun h2 => ?_) (fun h2 => ?_)
  ·first | (cases h2; done) | (simp at h2; done)
  ·refine Yv 7 18 false false (by simp [go_sem]) rfl (by simp [go_sem]) rfl rfl (by simp [go_sem, hpj] <;> rfl) ?_
   refine yC ?_
   refine aLG 1 18 false (by simp [go_sem, hd2] <;> rfl) ?_
   refine aT 1 ?_
   refine ye (yc (by first | rfl | (simp [go_sem, ze, hpj, hd0, hd2, hj0, hjl, hy, hyg] <;> rfl)) (fun h3 => ?_) (fun h3 => ?_))
   ·first | (cases h3; done) | (simp at h3; done)
   ·refine yg (yE tyOk tySz 6 (by kernel_rfl) (by decide) ?_)
    refine yu 6 (by simp [go_sem, hpj] <;> rfl) ?_
    refine yC ?_
    refine aL 3 (by simp [go_sem, hj0, hjl, hyg] <;> rfl) ?_
    refine ye (aS ?_)
    exact yq ((y, i.2 + 1)) σ.objs.length σ.toks.length 2 (⟨hlt, hyn⟩) (by show _ - _ < _ - _; omega) ⟨by simp [go_sem], by simp [go_sem], by simp, by simp, by simp [go_sem, hw], fun ob h => .inl (by simpa [go_sem, ze, hpj, hd0, hd2, hj0, hjl, hy, hyg, hw] using h), by simp [go_sem]⟩
 ·have hke : i.2 = p.length := by have h := h1; simp at h; omega
  have hex : i.1 = x := by rw [hke, List.take_length, hx] at hic; exact (Option.some.inj hic).symm
  refine yp (yi (yi (yl (sS ?_))))
  refine yd (eR ?_)
  exact ⟨by rw [← hex]; simp [go_sem], by simp [go_sem]⟩

set_option maxHeartbeats 1000000 in
theorem yh4 (d : D) (hd : d.size ≤ 100000000) (hf : formed d = true) : Pur Tryz.prog (GL kr) 69 [.pv (enc d)] (.pv (.slice ((subs d).map fun q => enc q.2))) := by
 have hkl := D.kids_length_lt d
 have hsl := yea d
 have hpl := yae d
 have ht0 : ((subs d).map fun q => enc q.2).take 0 = [] := rfl
 refine yx fun σ hgl => ?_
 refine yk tyOk Tryz.func69 rfl (by simp [Tryz.f69]) ?_
 refine sS ?_
 refine sS ?_
 refine sG ?_
 refine aT 1 ?_
 refine aG yfI ((ybA d hd hf) _ (by exact hgl)) ?_
 refine aT 1 ?_
 refine ye (ya (sS ?_))
 refine zt 3 24 4 (by simp [go_sem] <;> rfl) ?_
 refine yh (yo σ.objs.length (σ.toks.length + 1) 1 [1, 2, 4] (fun k : Nat => [(3, .acc (((subs d).map fun q => enc q.2).take k) σ.toks.length), (5, .pv (.int .i64 ↑k))]) (fun k => { σ with toks := σ.toks ++ [⟨k, 24, 4⟩] }) (fun k => k ≤ (prts d).length) (fun k => (prts d).length - k) 0 (Nat.zero_le _) ⟨by simp [go_sem, ht0], rfl, by simp, by simp, by simp [go_sem, ht0], fun ob h => .inl (by simpa [go_sem, ht0] using h), by simp [go_sem]⟩ ?_)
 intro k hk
 refine ya (sS ?_)
 refine aC (fun h0 => ?_) (fun h0 => ?_)
 ·have hlt : k < (prts d).length := by simp at h0; omega
  have hw : IntKind.i64.wrap (↑k + 1) = (k : Int) + 1 := yv (by omega)
  obtain ⟨y, hy, hym⟩ := ym hlt
  obtain ⟨q, hq, hqm⟩ := ym (l := subs d) (k := k) (by omega)
  have hyq : y = q.1.p := by have := yaa hq; rw [hy] at this; exact Option.some.inj this
  subst hyq
  have hnx : ((subs d).map fun q => enc q.2).take (k + 1) = ((subs d).map fun q => enc q.2).take k ++ [enc q.2] := yA (by rw [List.getElem?_map, hq]; rfl)
  have hm : min k (subs d).length = k := by omega
  have hb2 : (k + 1) * 56 ≤ 140737488355328 := by omega
  refine yg (ya (yh (ya (Yj tyOk tySz 11 (by kernel_rfl) (by decide) ?_))))
  refine yu 5 (by simp [go_sem, hy] <;> rfl) ?_
  refine yR (by first | (intro _ _ hh; exact hh) | simp [go_sem]) rfl rfl rfl rfl (by simp [go_sem] <;> rfl) yrn ((yrS d q.2 hd q.1.p (D.sub_subs hqm)) _ (by exact hgl)) (by simp [go_sem] <;> rfl) (by simp [go_sem, pthP]) rfl rfl ?_
  refine yu 5 (by simp [go_sem] <;> rfl) ?_
  refine yC ?_
  refine aT 1 ?_
  refine ye (aR (by simp [go_sem, hm, hb2] <;> rfl) ?_)
  refine aS ?_
  exact yq (k + 1) σ.objs.length (σ.toks.length + 1) 1 (hlt) (by omega) ⟨by simp [go_sem, hnx], rfl, by simp, by simp, by simp [go_sem, hw, hnx], fun ob h => .inl (by simpa [go_sem, hy, hm, hb2, hw, hnx] using h), by simp [go_sem]⟩
 ·have hke : k = (prts d).length := by simp at h0; omega
  subst hke
  have hfin : ((subs d).map fun q => enc q.2).take (prts d).length = (subs d).map fun q => enc q.2 := List.take_of_length_le (by simp; omega)
  refine yp (yi (yi (yl (sA (by simp [go_sem, hfin] <;> rfl) ?_))))
  refine yd (eR ?_)
  exact ⟨by simp [go_sem], by simp [go_sem]⟩

set_option maxHeartbeats 1000000 in
theorem yoU (p q : List Int) (hp : p.length ≤ 400000000) (hq : q.length ≤ 400000000) : Pur Tryz.prog (GL kr) 70 [.pv (.slice (ipv p)), .pv (.slice (ipv q))] (.pv (.slice (ipv (p ++ q)))) := by
 have hb1 : p.length * 8 ≤ 140737488355328 := by omega
 have hb2 : (p.length + q.length) * 8 ≤ 140737488355328 := by omega
 have hap := yb7 p q
 refine yx fun σ hgl => ?_
 refine yk tyOk Tryz.func70 rfl (by simp [Tryz.f70]) ?_
 refine sS ?_
 refine sA (by simp [go_sem, ze, hb1, hb2] <;> rfl) ?_
 refine yd (eR ?_)
 exact ⟨by simp [go_sem, hap], by simp [go_sem]⟩

end Go.Proofs.YtigideidmcmfbaaGreatDoor

namespace Go.Proofs.YtigideidmcmfbaaGreatDoor
open Go Go.Aw
variable {kr : KR}
theorem ymc (p q : List Int) (hp : p.length ≤ 400000000) (hq : q.length ≤ 400000000) : Pur Tryz.prog (GL kr) 70 [.pv (.slice (ipv p)), .pv (wPV q)] (.pv (.slice (ipv (p ++ q)))) := by
  have h := yoU (kr := kr) p q hp hq
  by_cases e : q = []
  · subst e
    exact fun σ hgl => ACalls.args (h σ hgl) (by simp [go_sem, wPV, ipv])
  · have e2 : wPV q = .slice (ipv q) := by unfold wPV; rw [if_neg e]; rfl
    rw [e2]; exact h

set_option maxHeartbeats 1000000 in
theorem yqx (d : D) : ∀ (hd : d.size ≤ 100000000) (hf : formed d = true), Pur Tryz.prog (GL kr) 92 [.pv (enc d)] (.tuple [.pv (wpath d), .pv (.bool (!Zj d))]) := by
 induction d using D.indS with
 | _ d ih =>
 intro hd hf
 refine yx fun σ hgl => ?_
 have hpl := yae d
 have hsle := yea d
 refine yk tyOk Tryz.func92 rfl (by simp [Tryz.f92]) ?_
 refine sS ?_
 refine ya (sG ?_)
 refine aT 1 ?_
 refine aG yb2 ((ya3 d (by omega) hf) _ (by exact hgl)) ?_
 refine aT 1 ?_
 refine ye (yc (by first | rfl | (simp [go_sem, Yi] <;> rfl)) (fun h0 => ?_) (fun h0 => ?_))
 ·refine ya (aS ?_)
  refine yd (yf ?_)
  have hz : yb d = 0 := by simpa using h0
  have hws := ZJ (d := d) (p := []) (by rw [ycf, if_pos (by simpa using hz)])
  refine eR ?_
  exact ⟨by rw [hws.1, hws.2]; simp [go_sem, wPV], by simp [go_sem]⟩
 ·have hk0 : yb d ≠ 0 := by simpa using h0
  refine yg (ya (Yj tyOk tySz 3 (by kernel_rfl) (by decide) ?_))
  refine yu 1 (by simp [go_sem] <;> rfl) ?_
  refine yR (by first | (intro _ _ hh; exact hh) | simp [go_sem]) rfl rfl rfl rfl (by simp [go_sem] <;> rfl) yfI ((ybA d hd hf) _ (by exact hgl)) (by simp [go_sem] <;> rfl) (by simp [go_sem]) rfl rfl ?_
  refine yu 1 (by simp [go_sem] <;> rfl) ?_
  refine yC ?_
  refine aG ymU ((yh4 d hd hf) _ (by exact hgl)) ?_
  refine aT 2 ?_
  refine ye (ya (sS ?_))
  refine yh (yo σ.objs.length σ.toks.length 1 [2, 3, 4, 5] (fun k : Nat => [(6, .pv (.int .i64 ↑k))]) (fun k => σ) (fun k => k ≤ (prts d).length ∧ NoWr d k) (fun k => (prts d).length - k) 0 (⟨Nat.zero_le _, .zero⟩) ⟨by simp [go_sem], rfl, by simp, by simp, by simp [go_sem], fun ob h => .inl (by simpa [go_sem, Yi] using h), by simp [go_sem]⟩ ?_)
  rintro k ⟨hk, hn⟩
  refine ya (sS ?_)
  refine yc (by first | rfl | (simp [go_sem, Yi] <;> rfl)) (fun h1 => ?_) (fun h1 => ?_)
  ·have hlt : k < (prts d).length := by simp at h1; omega
   have hw : IntKind.i64.wrap (↑k + 1) = (k : Int) + 1 := yv (by omega)
   obtain ⟨y, hy, hym⟩ := ym hlt
   obtain ⟨q, hq, hqm⟩ := ym (l := subs d) (k := k) (by omega)
   have hyq : y = q.1.p := by have := yaa hq; rw [hy] at this; exact Option.some.inj this
   subst hyq
   refine yg (ya (yh (sG ?_)))
   refine aL 4 (by simp [go_sem, hq] <;> rfl) ?_
   refine aG ylS ((ih q hqm (by have := YR hqm; omega) (yeH hf hqm)) _ (by exact hgl)) ?_
   refine aT 5 ?_
   refine ye (sS ?_)
   refine yc (by first | rfl | (simp [go_sem, Yi, hy, hq] <;> rfl)) (fun h2 => ?_) (fun h2 => ?_)
   ·have hno : Zj q.2 = false := by simpa using h2
    obtain ⟨p2, hp2⟩ := yns hno
    have hwp : wpath q.2 = wPV p2 := (ZJ hp2).1
    have hws := ZJ (hn.found hk0 hq hp2)
    refine sG ?_
    refine aL 5 (by simp [go_sem, hy, hwp] <;> rfl) ?_
    refine aF yrW ((ymc q.1.p p2 (by have := YE hqm; omega) (by have := ykv q.2 p2 hp2; have := YR hqm; omega)) _ (by exact hgl)) (by simp [go_sem] <;> rfl) (by simp [go_sem, pthP]) ?_
    refine aT 2 ?_
    refine ye (yd (yj (yf (yf (yj (yf (eR ?_)))))))
    exact ⟨by rw [hws.1, hws.2, ypj (YE hqm).1]; simp [go_sem, ipv], by simp [go_sem]⟩
   ·have hok : Zj q.2 = true := by simpa using h2
    have hsn := ymu hok
    refine yg (aS ?_)
    exact yq (k + 1) σ.objs.length σ.toks.length 1 (⟨hlt, hn.succ hq hsn⟩) (by omega) ⟨by simp [go_sem], rfl, by simp, by simp, by simp [go_sem, hw], fun ob h => .inl (by simpa [go_sem, Yi, hy, hq, hw] using h), by simp [go_sem]⟩
  ·have hke : k = (prts d).length := by simp at h1; omega
   subst hke
   rw [hpl] at hn
   have hws := ygm (hn.all hk0)
   refine yp (yi (yi (yl (sS ?_))))
   refine yd (eR ?_)
   exact ⟨by rw [hws.1, hws.2]; simp [go_sem], by simp [go_sem]⟩

set_option maxHeartbeats 1000000 in
theorem ynk (d : D) (hd : d.size ≤ 100000000) : Pur Tryz.prog (GL kr) 49 [.pv (enc d)] (.tuple [.pv (schk d).1, .pv (.int .i64 (schk d).2)]) := by
 refine yx fun σ hgl => ?_
 refine yk tyOk Tryz.func49 rfl (by simp [Tryz.f49]) ?_
 refine sS ?_
 refine ya (sG ?_)
 refine aT 1 ?_
 refine aG ysb ((ynf d (by omega)) _ (by exact hgl)) ?_
 refine aT 1 ?_
 refine ye (sS ?_)
 refine yc (by first | rfl | (simp [go_sem, Yi] <;> rfl)) (fun h0 => ?_) (fun h0 => ?_)
 ·refine ya (aS ?_)
  refine yd (yf (eR ?_))
  exact ⟨by simp only [schk, h0, if_true]; simp [go_sem], by simp [go_sem]⟩
 ·have hdz : dcheck d = 0 := by simpa using h0
  have hfm : formed d = true := yaB hdz
  refine yg (ya (sG ?_))
  refine aT 1 ?_
  refine aG ylS ((yqx d hd hfm) _ (by exact hgl)) ?_
  refine aT 5 ?_
  refine ye (sS ?_)
  refine yc (by first | rfl | (simp [go_sem, Yi] <;> rfl)) (fun h1 => ?_) (fun h1 => ?_)
  ·refine ya (aS ?_)
   refine yd (yf (eR ?_))
   exact ⟨by simp only [schk, h0, h1, Bool.false_eq_true, if_true, if_false]; simp [go_sem], by simp [go_sem]⟩
  ·refine yg (sS ?_)
   refine yd (eR ?_)
   exact ⟨by simp only [schk, h0, h1, Bool.false_eq_true, if_false]; simp [go_sem], by simp [go_sem]⟩

set_option maxHeartbeats 1000000 in
theorem ynu (d : D) (hd : d.size ≤ 100000000) (hf : formed d = true) : Pur Tryz.prog (GL kr) 151 [.pv (enc d)] (.pv (.slice ((ownS d).map .str))) := by
 have hkl := D.kids_length_lt d
 have hsl := y4 d
 refine yx fun σ hgl => ?_
 refine yk tyOk Tryz.func151 rfl (by simp [Tryz.f151]) ?_
 refine sS ?_
 refine sS ?_
 refine ya (sG ?_)
 refine aT 1 ?_
 refine aG yb2 ((ya3 d (by omega) hf) _ (by exact hgl)) ?_
 refine ye (yh (ya (sS ?_)))
 refine aC (fun h0 => ?_) (fun h0 => ?_)
 ·have hk : yb d = 5 ∨ yb d = 9 := by first | exact .inl (by simpa using h0) | exact .inr (by simpa using h0)
  have hlen := hsl.1 (by omega)
  obtain ⟨x1, hx1, hx1m⟩ := ym (l := d.kids) (k := 1) (by omega)
  have hd1 : d1 d.kids = x1 := yD hx1
  have hxs := D.size_kid_lt hx1m
  have hxl := D.kids_length_lt x1
  have hfx1 := yO hf hx1m
  have hlb : Zu x1.kids = false := by rw [← hd1]; exact (yeU (ynh hk)).1
  have hown : ownS d = x1.kids.map D.text := by unfold ownS; rw [hd1]; rcases hk with h | h <;> rw [h] <;> rfl
  refine yg (yc (b := true) (by simp [go_sem, h0]) (fun h => ?_) (fun h => ?_))
  rotate_left
  ·cases h
  refine yN ?_
  refine aL 4 (by simp [go_sem, hx1] <;> rfl) ?_
  refine aG yee ((ycN x1 (by omega) (fun x hx => yO hfx1 hx)) _ (by exact hgl)) ?_
  refine aL 4 (by simp [go_sem, hlb] <;> rfl) ?_
  refine ye (sS ?_)
  refine yd (eR ?_)
  exact ⟨by rw [hown]; first | (simp [go_sem]; done) | (simp [go_sem]; rfl), by simp [go_sem]⟩
 ·refine aS ?_
  refine aC (fun h1 => ?_) (fun h1 => ?_)
  ·have hk : yb d = 5 ∨ yb d = 9 := by first | exact .inl (by simpa using h1) | exact .inr (by simpa using h1)
   have hlen := hsl.1 (by omega)
   obtain ⟨x1, hx1, hx1m⟩ := ym (l := d.kids) (k := 1) (by omega)
   have hd1 : d1 d.kids = x1 := yD hx1
   have hxs := D.size_kid_lt hx1m
   have hxl := D.kids_length_lt x1
   have hfx1 := yO hf hx1m
   have hlb : Zu x1.kids = false := by rw [← hd1]; exact (yeU (ynh hk)).1
   have hown : ownS d = x1.kids.map D.text := by unfold ownS; rw [hd1]; rcases hk with h | h <;> rw [h] <;> rfl
   refine yN ?_
   refine aL 4 (by simp [go_sem, hx1] <;> rfl) ?_
   refine aG yee ((ycN x1 (by omega) (fun x hx => yO hfx1 hx)) _ (by exact hgl)) ?_
   refine aL 4 (by simp [go_sem, hlb] <;> rfl) ?_
   refine ye (sS ?_)
   refine yd (eR ?_)
   exact ⟨by rw [hown]; first | (simp [go_sem]; done) | (simp [go_sem]; rfl), by simp [go_sem]⟩
  ·refine ya (aS ?_)
   refine aC (fun h2 => ?_) (fun h2 => ?_)
   ·have hk : yb d = 6 := by simpa using h2
    have hlen := hsl.2.1 hk
    obtain ⟨x1, hx1, hx1m⟩ := ym (l := d.kids) (k := 1) (by omega)
    have hd1 : d1 d.kids = x1 := yD hx1
    have hxs := D.size_kid_lt hx1m
    have hxl := D.kids_length_lt x1
    have hfx1 := yO hf hx1m
    have hown : ownS d = [x1.text] := by unfold ownS; rw [hd1, hk]; rfl
    refine aR (by simp [go_sem, hx1] <;> rfl) ?_
    refine sS ?_
    refine yd (eR ?_)
    exact ⟨by rw [hown]; first | (simp [go_sem]; done) | (simp [go_sem]; rfl), by simp [go_sem]⟩
   ·refine ya (aS ?_)
    refine aC (fun h3 => ?_) (fun h3 => ?_)
    ·have hk : yb d = 7 := by simpa using h3
     have hlen := hsl.1 (by omega)
     obtain ⟨x1, hx1, hx1m⟩ := ym (l := d.kids) (k := 1) (by omega)
     have hd1 : d1 d.kids = x1 := yD hx1
     have hxs := D.size_kid_lt hx1m
     have hxl := D.kids_length_lt x1
     have hfx1 := yO hf hx1m
     have hk3 := hsl.2.2 hk
     rw [hd1] at hk3
     have hown : ownS d = x1.kids.map fun x => x.head.text := by unfold ownS; rw [hd1, hk]; rfl
     have hwn : ∀ k, (x1.kids.map fun x => PV.str x.head.text).take k = ((x1.kids.map fun x => x.head.text).map .str).take k := fun k => by rw [List.map_map]; rfl
     refine sS ?_
     refine zt 3 9 1 (by simp [go_sem] <;> rfl) ?_
     refine yh (yo σ.objs.length (σ.toks.length + 1) 1 [1, 2] (fun k : Nat => [(3, .acc ((x1.kids.map fun x => PV.str x.head.text).take k) σ.toks.length), (4, .pv (.int .i64 ↑k))]) (fun k => { σ with toks := σ.toks ++ [⟨k, 9, 1⟩] }) (fun k => k ≤ x1.kids.length) (fun k => x1.kids.length - k) 0 (Nat.zero_le _) ⟨by simp [go_sem], rfl, by simp, by simp, by simp [go_sem], fun ob h => .inl (by simpa [go_sem, hx1] using h), by simp [go_sem]⟩ ?_)
     intro k hk
     refine ya (sA (by simp [go_sem, hx1] <;> rfl) ?_)
     refine yc (by first | rfl | (simp [go_sem, hx1] <;> rfl)) (fun h4 => ?_) (fun h4 => ?_)
     ·have hlt : k < x1.kids.length := by simp at h4; omega
      have hw : IntKind.i64.wrap (↑k + 1) = (k : Int) + 1 := yv (by omega)
      obtain ⟨x, hx, hxm⟩ := ym hlt
      obtain ⟨y0, hy0, hy0m⟩ := ym (l := x.kids) (k := 0) (by rw [hk3 x hxm]; decide)
      have hh0 : x.head = y0 := ya0 hy0
      have hnx : (x1.kids.map fun x => PV.str x.head.text).take (k + 1) = (x1.kids.map fun x => PV.str x.head.text).take k ++ [.str x.head.text] := yA (by simp [hx])
      have hm : min k x1.kids.length = k := by omega
      have hb2 : (k + 1) * 16 ≤ 140737488355328 := by omega
      refine yg (ya (yh (aR (by simp [go_sem, hx1, hx, hy0, hm, hb2] <;> rfl) ?_)))
      refine aS ?_
      exact yq (k + 1) σ.objs.length (σ.toks.length + 1) 1 (hlt) (by omega) ⟨by simp [go_sem, hnx, hh0], rfl, by simp, by simp, by simp [go_sem, hw, hnx, hh0], fun ob h => .inl (by simpa [go_sem, hx1, hx, hy0, hm, hb2, hw, hnx, hh0] using h), by simp [go_sem]⟩
     ·have hke : k = x1.kids.length := by simp at h4; omega
      subst hke
      refine yp (yi (yi (yl (sS ?_))))
      refine yd (eR ?_)
      exact ⟨by rw [hown]; first | (simp [go_sem]; done) | (simp [go_sem]; rfl), by simp [go_sem]⟩
    ·have hown : ownS d = [] := by unfold ownS; simp only [h0, h1, h2, h3, Bool.false_eq_true, if_false] <;> rfl
     refine yg (sS ?_)
     refine yd (eR ?_)
     exact ⟨by rw [hown]; first | (simp [go_sem]; done) | (simp [go_sem]; rfl), by simp [go_sem]⟩

set_option maxHeartbeats 1000000 in
theorem ya4 (env : List Bd) (p : List Int) (n : Int) (ns : List ByteArray) (he : env.length + ns.length ≤ 1000000000) (h0 : 0 ≤ n) (h1 : n ≤ 1000000000) : Pur Tryz.prog (GL kr) 152 [.pv (.slice (env.map zW)), .pv (.slice (ipv p)), .pv (.int .i64 n), .pv (.slice (ns.map .str))] (.pv (.slice ((env ++ bdW p n ns).map zW))) := by
 have hb1 : env.length * 48 ≤ 140737488355328 := by omega
 have hw0 := yl3 env p n ns
 refine yx fun σ hgl => ?_
 refine yk tyOk Tryz.func152 rfl (by simp [Tryz.f152]) ?_
 refine sS ?_
 refine sA (by simp [go_sem, hb1] <;> rfl) ?_
 refine ya (sS ?_)
 refine yh (yo σ.objs.length (σ.toks.length + 1) 0 [1, 2, 3, 8] (fun k : Nat => [(9, .acc ((wEnv env p n ns k).map zW) σ.toks.length), (10, .pv (.int .i64 ↑k))]) (fun k => { σ with toks := σ.toks ++ [⟨(wEnv env p n ns k).length, 54, 3⟩] }) (fun k => k ≤ ns.length) (fun k => ns.length - k) 0 (Nat.zero_le _) ⟨by simp [go_sem, hw0], rfl, by simp, by simp, by simp [go_sem, hw0], fun ob h => .inl (by simpa [go_sem, hb1, hw0] using h), by simp [go_sem]⟩ ?_)
 intro k hk
 refine ya (sS ?_)
 refine yc (by first | rfl | (simp [go_sem, hb1] <;> rfl)) (fun h0 => ?_) (fun h0 => ?_)
 ·have hlt : k < ns.length := by simp at h0; omega
  have hw : IntKind.i64.wrap (↑k + 1) = (k : Int) + 1 := yv (by omega)
  obtain ⟨x, hx, hxm⟩ := ym hlt
  have hnx := ym6 (env := env) (p := p) (n := n) hx
  have hln := yh0 (env := env) (p := p) (n := n) (ns := ns) (k := k) (by omega)
  have hln2 := yh0 (env := env) (p := p) (n := n) (ns := ns) (k := k + 1) (by omega)
  have hwi : IntKind.i64.wrap (n + (k : Int)) = n + (k : Int) := yP (by omega) (by omega)
  have hb4 : (env.length + k + 1) * 48 ≤ 140737488355328 := Nat.le_trans (Nat.mul_le_mul_right 48 (show env.length + k + 1 ≤ 1000000000 by omega)) (by decide)
  refine yg (ya (yh (aR (by simp [go_sem, hx, hwi, hln, hb4] <;> rfl) ?_)))
  refine aS ?_
  exact yq (k + 1) σ.objs.length (σ.toks.length + 1) 0 (hlt) (by omega) ⟨by simp [go_sem, hnx, hln2, Nat.add_assoc, ipv], rfl, by simp, by simp, by simp [go_sem, hw, hnx, hln2, ipv], fun ob h => .inl (by simpa [go_sem, hb1, hx, hwi, hln, hb4, hw, hnx, hln2, Nat.add_assoc, ipv] using h), by simp [go_sem]⟩
 ·have hke : k = ns.length := by simp at h0; omega
  subst hke
  have hall := ynG env p n ns
  refine yp (yi (yi (yl (sA (by simp [go_sem, hall] <;> rfl) ?_))))
  refine yd (eR ?_)
  exact ⟨by simp [go_sem], by simp [go_sem]⟩

set_option maxHeartbeats 1000000 in
theorem yf6 (d : D) (hd : d.size ≤ 100000000) (hf : formed d = true) (hk : yb d = 7) (i : Nat) (x : D) (hx : (d1 d.kids).kids[i]? = some x) : Pur Tryz.prog (GL kr) 154 [.pv (enc d), .pv (.int .i64 (i : Int))] (.pv (.slice ((parS x).map .str))) := by
 have hkl := D.kids_length_lt d
 have hsl := y4 d
 have hlen := hsl.1 (by omega)
 obtain ⟨x1, hx1, hx1m⟩ := ym (l := d.kids) (k := 1) (by omega)
 have hd1 : d1 d.kids = x1 := yD hx1
 have hxs := D.size_kid_lt hx1m
 have hxl := D.kids_length_lt x1
 have hfx1 := yO hf hx1m
 have hk3 := hsl.2.2 hk
 have hxm := List.mem_of_getElem? hx
 have hil := (List.getElem?_eq_some_iff.1 hx).1
 have hx3 := hk3 x hxm
 obtain ⟨y1, hy1, hy1m⟩ := ym (l := x.kids) (k := 1) (by omega)
 have hy : d1 x.kids = y1 := yD hy1
 have hlb : Zu y1.kids = false := by rw [← hy]; exact (yeU (ypA hk hxm)).1
 rw [hd1] at hx hil hxm
 have hpr : parS x = y1.kids.map D.text := by unfold parS; rw [hy]
 have hz1 := D.size_kid_lt hxm
 have hz2 := D.size_kid_lt hy1m
 have hxg : x1.kids[i] = x := (List.getElem?_eq_some_iff.1 hx).2
 refine yx fun σ hgl => ?_
 refine yk tyOk Tryz.func154 rfl (by simp [Tryz.f154]) ?_
 refine sS ?_
 refine sG ?_
 refine aL 11 (by simp [go_sem, hx1, hy1, hil, hxg] <;> rfl) ?_
 refine aG yee ((ycN y1 (by omega) (fun z hz => yO (yO (yO hfx1 hxm) hy1m) hz)) _ (by exact hgl)) ?_
 refine aL 5 (by simp [go_sem, hlb] <;> rfl) ?_
 refine ye (sS ?_)
 refine yd (eR ?_)
 exact ⟨by rw [hpr]; simp [go_sem], by simp [go_sem]⟩

set_option maxHeartbeats 1000000 in
theorem ymI (d : D) (hd : d.size ≤ 100000000) (hf : formed d = true) (hk : yb d = 7) (i : Nat) (hi : i ≤ (d1 d.kids).kids.length) : Pur Tryz.prog (GL kr) 153 [.pv (enc d), .pv (.int .i64 (i : Int))] (.pv (.int .i64 (yW (d1 d.kids).kids i))) := by
 have hkl := D.kids_length_lt d
 have hsl := y4 d
 have hlen := hsl.1 (by omega)
 obtain ⟨x1, hx1, hx1m⟩ := ym (l := d.kids) (k := 1) (by omega)
 have hd1 : d1 d.kids = x1 := yD hx1
 have hxs := D.size_kid_lt hx1m
 have hxl := D.kids_length_lt x1
 have hfx1 := yO hf hx1m
 have hk3 := hsl.2.2 hk
 have hfz := ycJ (d1 d.kids).kids
 have hfle := Zx (d1 d.kids).kids
 have hsz := D.size_kids (d1 d.kids)
 rw [hd1] at hfz hfle hsz hi
 rw [hd1]
 refine yx fun σ hgl => ?_
 refine yk tyOk Tryz.func153 rfl (by simp [Tryz.f153]) ?_
 refine sS ?_
 refine sA (by simp [go_sem, hx1] <;> rfl) ?_
 refine ya (sS ?_)
 refine yh (yo σ.objs.length σ.toks.length 1 [1, 2, 4] (fun k : Nat => [(5, .pv (.int .i64 (yW x1.kids k))), (6, .pv (.int .i64 ↑k))]) (fun k => σ) (fun k => k ≤ i) (fun k => i - k) 0 (Nat.zero_le _) ⟨by simp [go_sem, hfz], rfl, by simp, by simp, by simp [go_sem, hfz], fun ob h => .inl (by simpa [go_sem, hx1, hfz] using h), by simp [go_sem]⟩ ?_)
 intro k hki
 refine ya (sS ?_)
 refine yc (by first | rfl | (simp [go_sem, hx1] <;> rfl)) (fun h0 => ?_) (fun h0 => ?_)
 ·have hlt : k < i := by simp at h0; omega
  have hw : IntKind.i64.wrap (↑k + 1) = (k : Int) + 1 := yv (by omega)
  obtain ⟨x, hx, hxm⟩ := ym (l := x1.kids) (k := k) (by omega)
  have hfn := yaE hx
  have h1 := hfle k (by omega)
  have h2 := hfle (k + 1) (by omega)
  have hwa : IntKind.i64.wrap (yW x1.kids k + ((parS x).length : Int)) = yW x1.kids (k + 1) := by rw [hfn]; exact yP (by omega) (by omega)
  refine yg (ya (yh (yN ?_)))
  refine aT 3 ?_
  refine aG ykp ((yf6 d hd hf hk k x (by rw [hd1]; exact hx)) _ (by exact hgl)) ?_
  refine aL 3 (by simp [go_sem, hwa] <;> rfl) ?_
  refine ye (aS ?_)
  exact yq (k + 1) σ.objs.length σ.toks.length 1 (hlt) (by omega) ⟨by simp [go_sem], rfl, by simp, by simp, by simp [go_sem, hw], fun ob h => .inl (by simpa [go_sem, hx1, hwa, hw] using h), by simp [go_sem]⟩
 ·have hke : k = i := by simp at h0; omega
  subst hke
  refine yp (yi (yi (yl (sS ?_))))
  refine yd (eR ?_)
  exact ⟨by simp [go_sem], by simp [go_sem]⟩

set_option maxHeartbeats 1000000 in
theorem yn1 (p q : List Int) (hp : p.length ≤ 400000000) (hq : q.length ≤ 400000000) : Pur Tryz.prog (GL kr) 107 [.pv (.slice (ipv p)), .pv (.slice (ipv q))] (.pv (.slice (ipv (p ++ q)))) := by
 have hb1 : p.length * 8 ≤ 140737488355328 := by omega
 have hb2 : (p.length + q.length) * 8 ≤ 140737488355328 := by omega
 have hap := yb7 p q
 refine yx fun σ hgl => ?_
 refine yk tyOk Tryz.func107 rfl (by simp [Tryz.f107]) ?_
 refine sS ?_
 refine sA (by simp [go_sem, ze, hb1, hb2] <;> rfl) ?_
 refine yd (eR ?_)
 exact ⟨by simp [go_sem, hap], by simp [go_sem]⟩

set_option maxHeartbeats 4000000 in
theorem yoF (d : D) (hd : d.size ≤ 100000000) (hf : formed d = true) (p : List Int) (env : List Bd) (he : env.length + 3 * d.size ≤ 1000000000) : Pur Tryz.prog (GL kr) 106 [.pv (enc d), .pv (.slice (ipv p)), .pv (.slice (env.map zW))] (.pv (.slice ((scps d p env).map scpP))) := by
 have hkl := D.kids_length_lt d
 have hsl := y4 d
 have hpl := yae d
 have hsle := yea d
 have hol := ya8 d
 have ht0 : ((scps d p env).map scpP).take 0 = [] := rfl
 have hscl := yie d p env
 have hfle := Zx (d1 d.kids).kids
 refine yx fun σ hgl => ?_
 refine yk tyOk Tryz.func106 rfl (by simp [Tryz.f106]) ?_
 refine sS ?_
 refine sG ?_
 refine aT 1 ?_
 refine aG yql ((ynu d hd hf) _ (by exact hgl)) ?_
 refine aT 1 ?_
 refine ye (sG ?_)
 refine aT 1 ?_
 refine aG yfI ((ybA d hd hf) _ (by exact hgl)) ?_
 refine aL 2 (by simp [go_sem, hpl] <;> rfl) ?_
 refine ye (sS ?_)
 refine ya (sS ?_)
 refine zt 9 50 1 (by simp [go_sem] <;> rfl) ?_
 refine yh (yo σ.objs.length (σ.toks.length + 1) 1 [1, 2, 3, 6, 7, 8] (fun k : Nat => [(9, .acc (((scps d p env).map scpP).take k) σ.toks.length), (10, .pv (.int .i64 ↑k))]) (fun k => { σ with toks := σ.toks ++ [⟨k, 50, 1⟩] }) (fun k => k ≤ (subs d).length) (fun k => (subs d).length - k) 0 (Nat.zero_le _) ⟨by simp [go_sem, ht0], rfl, by simp, by simp, by simp [go_sem, ht0], fun ob h => .inl (by simpa [go_sem, hpl, ht0] using h), by simp [go_sem]⟩ ?_)
 intro k hk
 refine ya (sS ?_)
 refine yc (by first | rfl | (simp [go_sem, hpl] <;> rfl)) (fun h0 => ?_) (fun h0 => ?_)
 ·have hlt : k < (subs d).length := by simp at h0; omega
  have hw : IntKind.i64.wrap (↑k + 1) = (k : Int) + 1 := yv (by omega)
  obtain ⟨q, hq, hqm⟩ := ym (l := subs d) (k := k) (by omega)
  have hnx : ((scps d p env).map scpP).take (k + 1) = ((scps d p env).map scpP).take k ++ [.slice ((env ++ bdS p q.1.ns).map zW)] := yA (by rw [List.getElem?_map, yfj hq]; rfl)
  have hm : min k (scps d p env).length = k := by omega
  have hb2 : (k + 1) * 24 ≤ 140737488355328 := by omega
  have hws : IntKind.i64.wrap (((subs d).length : Int) - 1) = ((subs d).length : Int) - 1 := yP (by omega) (by omega)
  refine yg (ya (yh (sS ?_)))
  refine ya (sG ?_)
  refine aT 1 ?_
  refine aG yb2 ((ya3 d (by omega) hf) _ (by exact hgl)) ?_
  refine aT 1 ?_
  refine ye (yh (sG ?_))
  refine aT 3 ?_
  refine yn 29 (by first | rfl | (simp [go_sem, hpl, hm, hb2, hws] <;> rfl)) (fun h1 => ?_) (fun h1 => ?_)
  ·have hk : yb d = 5 := by simpa using h1
   have hsc : env ++ bdS p q.1.ns = env ++ bdW p 0 (ownS d) := by rw [ymQ (.inl hk) hqm]
   refine aK 2 29 false ?_
   refine aT 2 ?_
   refine aK 3 33 false ?_
   refine aK 2 36 true ?_
   refine aK 1 33 false ?_
   refine aT 2 ?_
   refine ye (yc (b := true) (by simp [go_sem]) (fun h => ?_) (fun h => ?_))
   rotate_left
   ·cases h
   refine yN ?_
   refine aT 3 ?_
   refine aG ybY ((ya4 env p 0 (ownS d) (by omega) (by omega) (by omega)) _ (by exact hgl)) ?_
   refine aT 1 ?_
   refine ye (aR (by simp [go_sem, hm, hb2] <;> rfl) ?_)
   refine aS ?_
   exact yq (k + 1) σ.objs.length (σ.toks.length + 1) 1 (hlt) (by omega) ⟨by simp [go_sem, hnx, hsc], rfl, by simp, by simp, by simp [go_sem, hw, hnx, hsc], fun ob h => .inl (by simpa [go_sem, hpl, hm, hb2, hws, hw, hnx, hsc] using h), by simp [go_sem]⟩
  ·refine aLG 2 29 false (by simp [go_sem] <;> rfl) ?_
   refine aT 2 ?_
   refine yn 33 (by first | rfl | (simp [go_sem, hpl, hm, hb2, hws] <;> rfl)) (fun h2 => ?_) (fun h2 => ?_)
   ·have hk : yb d = 9 := by simpa using h2
    have hsc : env ++ bdS p q.1.ns = env ++ bdW p 0 (ownS d) := by rw [ymQ (.inr hk) hqm]
    refine aK 3 33 false ?_
    refine aK 2 36 true ?_
    refine aK 1 33 false ?_
    refine aT 2 ?_
    refine ye (yc (b := true) (by simp [go_sem]) (fun h => ?_) (fun h => ?_))
    rotate_left
    ·cases h
    refine yN ?_
    refine aT 3 ?_
    refine aG ybY ((ya4 env p 0 (ownS d) (by omega) (by omega) (by omega)) _ (by exact hgl)) ?_
    refine aT 1 ?_
    refine ye (aR (by simp [go_sem, hm, hb2] <;> rfl) ?_)
    refine aS ?_
    exact yq (k + 1) σ.objs.length (σ.toks.length + 1) 1 (hlt) (by omega) ⟨by simp [go_sem, hnx, hsc], rfl, by simp, by simp, by simp [go_sem, hw, hnx, hsc], fun ob h => .inl (by simpa [go_sem, hpl, hm, hb2, hws, hw, hnx, hsc] using h), by simp [go_sem]⟩
   ·refine aLG 3 33 false (by simp [go_sem] <;> rfl) ?_
    refine yn 36 (by first | rfl | (simp [go_sem, hpl, hm, hb2, hws] <;> rfl)) (fun h3 => ?_) (fun h3 => ?_)
    ·have hk : yb d = 6 := by simpa using h3
     have hll := yqX hk
     refine aLG 2 36 true (by simp [go_sem] <;> rfl) ?_
     refine aLG 1 33 false (by simp [go_sem] <;> rfl) ?_
     refine aT 2 ?_
     refine ye (yc (by first | rfl | (simp [go_sem, hpl, hm, hb2, hws] <;> rfl)) (fun h4 => ?_) (fun h4 => ?_))
     ·have hk1 : k = 1 := by have h := h4; simp at h; omega
      have hsc : env ++ bdS p q.1.ns = env ++ bdW p 0 (ownS d) := by rw [yoQ hk (hk1 ▸ hq)]
      refine yN ?_
      refine aT 3 ?_
      refine aG ybY ((ya4 env p 0 (ownS d) (by omega) (by omega) (by omega)) _ (by exact hgl)) ?_
      refine aT 1 ?_
      refine ye (aR (by simp [go_sem, hm, hb2] <;> rfl) ?_)
      refine aS ?_
      exact yq (k + 1) σ.objs.length (σ.toks.length + 1) 1 (hlt) (by omega) ⟨by simp [go_sem, hnx, hsc], rfl, by simp, by simp, by simp [go_sem, hw, hnx, hsc], fun ob h => .inl (by simpa [go_sem, hpl, hm, hb2, hws, hw, hnx, hsc] using h), by simp [go_sem]⟩
     ·have hk1 : k = 0 := by have h := h4; simp at h; omega
      have hsc : env ++ bdS p q.1.ns = env := by rw [ynX hk (hk1 ▸ hq), List.append_nil]
      refine sS ?_
      refine yc (by first | rfl | (simp [go_sem, hpl, hm, hb2, hws] <;> rfl)) (fun h5 => ?_) (fun h5 => ?_)
      ·exfalso; have h := h5; simp at h; omega
      ·refine yg (aR (by simp [go_sem, hm, hb2] <;> rfl) ?_)
       refine aS ?_
       exact yq (k + 1) σ.objs.length (σ.toks.length + 1) 1 (hlt) (by omega) ⟨by simp [go_sem, hnx, hsc], rfl, by simp, by simp, by simp [go_sem, hw, hnx, hsc], fun ob h => .inl (by simpa [go_sem, hpl, hm, hb2, hws, hw, hnx, hsc] using h), by simp [go_sem]⟩
    ·refine aK 2 36 true ?_
     refine aLG 1 33 false (by simp [go_sem] <;> rfl) ?_
     refine aT 2 ?_
     refine ye (yc (b := false) (by simp [go_sem]) (fun h => ?_) (fun h => ?_))
     ·cases h
     refine sS ?_
     refine yc (by first | rfl | (simp [go_sem, hpl, hm, hb2, hws] <;> rfl)) (fun h6 => ?_) (fun h6 => ?_)
     ·have hk : yb d = 7 := by simpa using h6
      have hlen := hsl.1 (by omega)
      obtain ⟨x1, hx1, hx1m⟩ := ym (l := d.kids) (k := 1) (by omega)
      have hd1 : d1 d.kids = x1 := yD hx1
      have hxs := D.size_kid_lt hx1m
      have hxl := D.kids_length_lt x1
      have hfx1 := yO hf hx1m
      have hsz1 := D.size_kids x1
      have hrl := Yx hk
      rw [hd1] at hrl hfle
      refine sG ?_
      refine aT 3 ?_
      refine aG ybY ((ya4 env p 0 (ownS d) (by omega) (by omega) (by omega)) _ (by exact hgl)) ?_
      refine aT 1 ?_
      refine ye (sA (by simp [go_sem, hws] <;> rfl) ?_)
      refine yc (by first | rfl | (simp [go_sem, hpl, hm, hb2, hws] <;> rfl)) (fun h7 => ?_) (fun h7 => ?_)
      ·have hkx : k < x1.kids.length := by have h := h7; simp at h; omega
       obtain ⟨x, hx, hxm⟩ := ym hkx
       have hf1 := hfle k (by omega)
       have hpx := ykK x
       have hzx := D.size_kid_lt hxm
       have hfr : yW (d1 d.kids).kids k = yW x1.kids k := by rw [hd1]
       have hsc : env ++ bdS p q.1.ns = env ++ bdW p 0 (ownS d) ++ bdW p (yW x1.kids k) (parS x) := by rw [ypI hk hq (by rw [hd1]; exact hx), hd1, List.append_assoc]
       refine Yj tyOk tySz 8 (by kernel_rfl) (by decide) ?_
       refine yu 4 (by simp [go_sem] <;> rfl) ?_
       refine yR (by first | (intro _ _ hh; exact hh) | simp [go_sem]) rfl rfl rfl rfl (by simp [go_sem] <;> rfl) yqz ((ymI d hd hf hk k (by rw [hd1]; omega)) _ (by exact hgl)) (by simp [go_sem] <;> rfl) (by simp [go_sem]) rfl rfl ?_
       refine yu 2 (by simp [go_sem, hfr] <;> rfl) ?_
       refine yR (by first | (intro _ _ hh; exact hh) | simp [go_sem]) rfl rfl rfl rfl (by simp [go_sem] <;> rfl) ykp ((yf6 d hd hf hk k x (by rw [hd1]; exact hx)) _ (by exact hgl)) (by simp [go_sem] <;> rfl) (by simp [go_sem]) rfl rfl ?_
       refine yC ?_
       refine aG ybY ((ya4 (env ++ bdW p 0 (ownS d)) p (yW x1.kids k) (parS x) (by rw [List.length_append, ygp]; omega) (by omega) (by omega)) _ (by exact hgl)) ?_
       refine aT 1 ?_
       refine ye (aR (by simp [go_sem, hm, hb2] <;> rfl) ?_)
       refine aS ?_
       exact yq (k + 1) σ.objs.length (σ.toks.length + 1) 1 (hlt) (by omega) ⟨by simp [go_sem, hnx, hsc], rfl, by simp, by simp, by simp [go_sem, hw, hnx, hsc], fun ob h => .inl (by simpa [go_sem, hpl, hm, hb2, hws, hfr, hw, hnx, hsc] using h), by simp [go_sem]⟩
      ·have hkx : k = x1.kids.length := by have h := h7; simp at h; omega
       have hsc : env ++ bdS p q.1.ns = env ++ bdW p 0 (ownS d) := by rw [ypl hk (by rw [hd1, ← hkx]; exact hq)]
       refine yg (aR (by simp [go_sem, hm, hb2] <;> rfl) ?_)
       refine aS ?_
       exact yq (k + 1) σ.objs.length (σ.toks.length + 1) 1 (hlt) (by omega) ⟨by simp [go_sem, hnx, hsc], rfl, by simp, by simp, by simp [go_sem, hw, hnx, hsc], fun ob h => .inl (by simpa [go_sem, hpl, hm, hb2, hws, hw, hnx, hsc] using h), by simp [go_sem]⟩
     ·have hsc : env ++ bdS p q.1.ns = env := by rw [yo2 (by simp only [beq_eq_false_iff_ne, ne_eq] at *; omega) hqm, List.append_nil]
      refine yg (aR (by simp [go_sem, hm, hb2] <;> rfl) ?_)
      refine aS ?_
      exact yq (k + 1) σ.objs.length (σ.toks.length + 1) 1 (hlt) (by omega) ⟨by simp [go_sem, hnx, hsc], rfl, by simp, by simp, by simp [go_sem, hw, hnx, hsc], fun ob h => .inl (by simpa [go_sem, hpl, hm, hb2, hws, hw, hnx, hsc] using h), by simp [go_sem]⟩
 ·have hke : k = (subs d).length := by simp at h0; omega
  subst hke
  have hfin : ((scps d p env).map scpP).take (subs d).length = (scps d p env).map scpP := List.take_of_length_le (by rw [List.length_map]; omega)
  refine yp (yi (yi (yl (sA (by simp [go_sem, hfin] <;> rfl) ?_))))
  refine yd (eR ?_)
  exact ⟨by simp [go_sem], by simp [go_sem]⟩

end Go.Proofs.YtigideidmcmfbaaGreatDoor

namespace Go.Proofs.YtigideidmcmfbaaGreatDoor
open Go Go.Aw
variable {kr : KR}
set_option maxHeartbeats 1000000 in
theorem yr3 (d : D) : ∀ (hd : d.size ≤ 100000000) (hf : formed d = true) (p : List Int) (hp : p.length + 3 * d.size ≤ 400000000) (env : List Bd) (he : env.length + 3 * d.size ≤ 1000000000), Pur Tryz.prog (GL kr) 64 [.pv (enc d), .pv (.slice (ipv p)), .pv (.slice (env.map zW))] (.pv (.slice ((rvars d p env).map Z5))) := by
 induction d using D.indS with
 | _ d ih =>
 intro hd hf p hp env he
 refine yx fun σ hgl => ?_
 have hpl := yae d
 have hsle := yea d
 have hz0 := yoM d p env
 have hscl := yie d p env
 refine yk tyOk Tryz.func64 rfl (by simp [Tryz.f64]) ?_
 refine sS ?_
 refine ya (sG ?_)
 refine aT 1 ?_
 refine aG yb2 ((ya3 d (by omega) hf) _ (by exact hgl)) ?_
 refine aT 1 ?_
 refine ye (aC (fun h0 => ?_) (fun h0 => ?_))
 ·have hk : yb d = 2 := by simpa using h0
  refine sS ?_
  refine yd (yf (eR ?_))
  exact ⟨by rw [ya5, if_pos (by simpa using hk)]; simp [go_sem, Z5, ipv], by simp [go_sem]⟩
 ·have hk : yb d ≠ 2 := by simpa using h0
  refine yg (sS ?_)
  refine ya (Yj tyOk tySz 7 (by kernel_rfl) (by decide) ?_)
  refine yu 1 (by simp [go_sem] <;> rfl) ?_
  refine yR (by first | (intro _ _ hh; exact hh) | simp [go_sem]) rfl rfl rfl rfl (by simp [go_sem] <;> rfl) yfI ((ybA d hd hf) _ (by exact hgl)) (by simp [go_sem] <;> rfl) (by simp [go_sem]) rfl rfl ?_
  refine yu 1 (by simp [go_sem] <;> rfl) ?_
  refine yR (by first | (intro _ _ hh; exact hh) | simp [go_sem]) rfl rfl rfl rfl (by simp [go_sem] <;> rfl) ymU ((yh4 d hd hf) _ (by exact hgl)) (by simp [go_sem] <;> rfl) (by simp [go_sem]) rfl rfl ?_
  refine yu 3 (by simp [go_sem] <;> rfl) ?_
  refine yC ?_
  refine aG yqJ ((yoF d hd hf p env he) _ (by exact hgl)) ?_
  refine aT 3 ?_
  refine ye (ya (sS ?_))
  refine zt 7 52 3 (by simp [go_sem] <;> rfl) ?_
  refine yh (yo σ.objs.length (σ.toks.length + 1) 1 [1, 6, 8, 9, 10] (fun k : Nat => [(7, .acc ((rvK d p env k).map Z5) σ.toks.length), (11, .pv (.int .i64 ↑k))]) (fun k => { σ with toks := σ.toks ++ [⟨(rvK d p env k).length, 52, 3⟩] }) (fun k => k ≤ (prts d).length) (fun k => (prts d).length - k) 0 (Nat.zero_le _) ⟨by simp [go_sem, hz0], rfl, by simp, by simp, by simp [go_sem, hz0], fun ob h => .inl (by simpa [go_sem, hz0] using h), by simp [go_sem]⟩ ?_)
  intro k hkl
  refine ya (sS ?_)
  refine aC (fun h1 => ?_) (fun h1 => ?_)
  ·have hlt : k < (prts d).length := by simp at h1; omega
   have hw : IntKind.i64.wrap (↑k + 1) = (k : Int) + 1 := yv (by omega)
   obtain ⟨y, hy, hym⟩ := ym hlt
   obtain ⟨q, hq, hqm⟩ := ym (l := subs d) (k := k) (by omega)
   have hyq : y = q.1.p := by have := yaa hq; rw [hy] at this; exact Option.some.inj this
   subst hyq
   have hns := ypr hqm
   have hqs := YR hqm
   have hsg : ((scps d p env).map scpP)[k]? = some (scpP (env ++ bdS p q.1.ns)) := by rw [List.getElem?_map, yfj hq]; rfl
   have hsg2 : (scps d p env)[k]? = some (env ++ bdS p q.1.ns) := yfj hq
   obtain ⟨vs, hvs⟩ : ∃ z, z = rvars q.2 (p ++ q.1.p) (env ++ bdS p q.1.ns) := ⟨_, rfl⟩
   have hvs2 := hvs.symm
   have hnx := yog (p := p) (env := env) hq
   rw [← hvs] at hnx
   have hln := yqj (d := d) (p := p) (env := env) hk (k + 1)
   rw [hnx, List.length_append] at hln
   have hb2 : ((rvK d p env k).length + vs.length) * 64 ≤ 140737488355328 := Nat.le_trans (Nat.mul_le_mul_right 64 (show _ ≤ 1000000000 by omega)) (by decide)
   refine yg (ya (yh (Yj tyOk tySz 16 (by kernel_rfl) (by decide) ?_)))
   refine yu 10 (by simp [go_sem, hy, hq] <;> rfl) ?_
   refine yR (by first | (intro _ _ hh; exact hh) | simp [go_sem]) rfl rfl rfl rfl (by simp [go_sem] <;> rfl) yqF ((yn1 p q.1.p (by omega) (by have := YE hqm; omega)) _ (by exact hgl)) (by simp [go_sem] <;> rfl) (by simp [go_sem, pthP]) rfl rfl ?_
   refine yu 4 (by simp [go_sem, hsg] <;> rfl) ?_
   refine yR (by first | (intro _ _ hh; exact hh) | simp [go_sem]) rfl rfl rfl rfl (by simp [go_sem] <;> rfl) yms ((ih q hqm (by omega) (yeH hf hqm) (p ++ q.1.p) (by rw [List.length_append]; have := YE hqm; omega) (env ++ bdS p q.1.ns) (by rw [List.length_append, ykG]; omega)) _ (by exact hgl)) (by simp [go_sem] <;> rfl) (by simp [go_sem, scpP]) rfl rfl ?_
   refine yC ?_
   refine aL 2 (by simp [go_sem, hvs2, hb2] <;> rfl) ?_
   refine ye (aS ?_)
   exact yq (k + 1) σ.objs.length (σ.toks.length + 1) 1 (hlt) (by omega) ⟨by simp [go_sem, hnx], rfl, by simp, by simp, by simp [go_sem, hw, hnx], fun ob h => .inl (by simpa [go_sem, hy, hq, hsg, hsg2, hvs2, hb2, hw, hnx] using h), by simp [go_sem]⟩
  ·have hke : k = (prts d).length := by simp at h1; omega
   subst hke
   have hall := ykg (p := p) (env := env) hk
   rw [← hpl] at hall
   refine yp (yi (yi (yl (sA (by simp [go_sem, hall] <;> rfl) ?_))))
   refine yd (eR ?_)
   exact ⟨by simp [go_sem], by simp [go_sem]⟩

set_option maxHeartbeats 1000000 in
theorem yrE (d : D) (hd : d.size ≤ 100000000) (hf : formed d = true) : Pur Tryz.prog (GL kr) 25 [.pv (enc d)] (.pv (.slice ((rvars d [] []).map Z5))) := by
 refine yx fun σ hgl => ?_
 refine yk tyOk Tryz.func25 rfl (by simp [Tryz.f25]) ?_
 refine sS ?_
 refine sG ?_
 refine aT 1 ?_
 refine aF yms ((yr3 d hd hf [] (by simp; omega) [] (by simp; omega)) _ (by exact hgl)) (by simp [go_sem] <;> rfl) (by simp [go_sem, ipv]) ?_
 refine aT 1 ?_
 refine ye (yd (eR ?_))
 exact ⟨by simp [go_sem], by simp [go_sem]⟩

set_option maxHeartbeats 1000000 in
theorem yqu (x : ByteArray) (env : List Bd) (he : env.length ≤ 1000000000) : Pur Tryz.prog (GL kr) 65 [.pv (.str x), .pv (.slice (env.map zW))] (.tuple [.pv (zW ((YA x env).getD bd0)), .pv (.bool (YA x env).isSome)]) := by
 have hw0 : IntKind.i64.wrap ((env.length : Int) - 1) = (env.length : Int) - 1 := yP (by omega) (by omega)
 refine yx fun σ hgl => ?_
 refine yk tyOk Tryz.func65 rfl (by simp [Tryz.f65]) ?_
 refine sS ?_
 refine ya (sA (by simp [go_sem, hw0] <;> rfl) ?_)
 refine yh (yo σ.objs.length σ.toks.length 1 [0, 1, 4, 5] (fun k : Nat => [(6, .pv (.int .i64 ((env.length : Int) - 1 - (k : Int))))]) (fun k => σ) (fun k => k ≤ env.length ∧ NotYet (fun b : Bd => decide (b.nm = x)) env.reverse k) (fun k => env.length - k) 0 (⟨Nat.zero_le _, .zero⟩) ⟨by simp [go_sem], rfl, by simp, by simp, by simp [go_sem], fun ob h => .inl (by simpa [go_sem, hw0] using h), by simp [go_sem]⟩ ?_)
 rintro k ⟨hk, hn⟩
 refine ya (sS ?_)
 refine yc (by first | rfl | (simp [go_sem, hw0] <;> rfl)) (fun h0 => ?_) (fun h0 => ?_)
 ·have hlt : k < env.length := by have h := h0; simp at h; omega
  obtain ⟨b, hb, hbi⟩ := yr1 hlt
  have hki : ((env.length : Int) - 1 - (k : Int)).toNat = env.length - 1 - k := by omega
  have h0i : (0 : Int) ≤ (env.length : Int) - 1 - (k : Int) := by omega
  have h0j : (k : Int) ≤ (env.length : Int) - 1 := by omega
  have h1i : (env.length : Int) - 1 - (k : Int) < (env.length : Int) := by omega
  have hbl : env.length - 1 - k < env.length := by omega
  have hbg : env[env.length - 1 - k] = b := (List.getElem?_eq_some_iff.1 hbi).2
  have hw : IntKind.i64.wrap ((env.length : Int) - 1 - (k : Int) - 1) = (env.length : Int) - 1 - ((k + 1 : Nat) : Int) := by rw [yP (by omega) (by omega)]; omega
  refine yg (ya (yh (sA (by simp [go_sem, hki, h0j, hbg, hbl] <;> rfl) ?_)))
  refine yc (by first | rfl | (simp [go_sem, hw0, hki, h0i, h0j, h1i, hbi, hbg, hbl] <;> rfl)) (fun h1 => ?_) (fun h1 => ?_)
  ·refine ya (aR (by simp [go_sem, hki, h0j, hbg, hbl] <;> rfl) ?_)
   refine yd (yj (yf (yf (yj (yf ?_)))))
   have hsome := yjK hn hb h1
   refine eR ?_
   exact ⟨by rw [hsome]; simp [go_sem, zW], by simp [go_sem]⟩
  ·refine yg (aS ?_)
   exact yq (k + 1) σ.objs.length σ.toks.length 1 (⟨hlt, hn.succ hb h1⟩) (by omega) ⟨by simp [go_sem], rfl, by simp, by simp, by simp [go_sem, hw], fun ob h => .inl (by simpa [go_sem, hw0, hki, h0i, h0j, h1i, hbi, hbg, hbl, hw] using h), by simp [go_sem]⟩
 ·have hke : k = env.length := by have h := h0; simp at h; omega
  subst hke
  rw [← List.length_reverse] at hn
  have hnone := yk0 hn
  refine yp (yi (yi (yl (sS ?_))))
  refine yd (eR ?_)
  exact ⟨by rw [hnone]; simp [go_sem, zW, bd0], by simp [go_sem]⟩

set_option maxHeartbeats 1000000 in
theorem ypz (v : Vr) (he : v.env.length ≤ 1000000000) : Pur Tryz.prog (GL kr) 27 [.pv (Z5 v)] (.tuple [.pv (zW ((YA v.nm v.env).getD bd0)), .pv (.bool (YA v.nm v.env).isSome)]) := by
 refine yx fun σ hgl => ?_
 refine yk tyOk Tryz.func27 rfl (by simp [Tryz.f27]) ?_
 refine sA (by simp [go_sem, Z5] <;> rfl) ?_
 refine sG ?_
 refine aT 4 ?_
 refine aG yrN ((yqu v.nm v.env he) _ (by exact hgl)) ?_
 refine aT 4 ?_
 refine ye (yd (eR ?_))
 exact ⟨by simp [go_sem, zW], by simp [go_sem]⟩

set_option maxHeartbeats 4000000 in
theorem ylw (l : List ByteArray) (hl : l.length ≤ 1000000000) : Pur Tryz.prog (GL kr) 51 [.pv (.slice (l.map .str))] (.pv (.slice ((rsort l).map .str))) := by
 have hs0 : Y9 l 0 = [] := rfl
 refine yx fun σ hgl => ?_
 refine yk tyOk Tryz.func51 rfl (by simp [Tryz.f51]) ?_
 refine sS ?_
 refine sS ?_
 refine ya (sS ?_)
 refine yh (yo σ.objs.length σ.toks.length 0 [0, 2] (fun k : Nat => [(3, .pv (.slice ((Y9 l k).map .str))), (4, .pv (.int .i64 ↑k))]) (fun k => σ) (fun k => k ≤ l.length) (fun k => l.length - k) 0 (Nat.zero_le _) ⟨by simp [go_sem, hs0], rfl, by simp, by simp, by simp [go_sem, hs0], fun ob h => .inl (by simpa [go_sem, zV, zH, hs0] using h), by simp [go_sem]⟩ ?_)
 intro k hk
 refine ya (sS ?_)
 refine yc (by first | rfl | (simp [go_sem, zV, zH] <;> rfl)) (fun h0 => ?_) (fun h0 => ?_)
 ·have hlt : k < l.length := by simp at h0; omega
  have hw : IntKind.i64.wrap (↑k + 1) = (k : Int) + 1 := yv (by omega)
  obtain ⟨x, hx, hxm⟩ := ym hlt
  obtain ⟨out, hout⟩ : ∃ z, z = Y9 l k := ⟨_, rfl⟩
  have hos := hout.symm
  have hsn := ycB hx
  rw [hos] at hsn
  have hsl := ylJ l k (by omega)
  rw [hos] at hsl
  have hi0 : insK x out 0 = ([], false) := rfl
  refine yg (ya (yh (sA (by simp [go_sem, hos] <;> rfl) ?_)))
  refine sS ?_
  refine ya (sS ?_)
  refine zt 5 9 1 (by simp [go_sem] <;> rfl) ?_
  refine yh (yo σ.objs.length (σ.toks.length + 1) 0 [0, 2, 3, 4] (fun j : Nat => [(5, .acc ((insK x out j).1.map .str) σ.toks.length), (6, .pv (.bool (insK x out j).2)), (7, .pv (.int .i64 ↑j))]) (fun j => { σ with toks := σ.toks ++ [⟨(insK x out j).1.length, 9, 1⟩] }) (fun j => j ≤ out.length) (fun j => out.length - j) 0 (Nat.zero_le _) ⟨by simp [go_sem, hi0], rfl, by simp, by simp, by simp [go_sem, hi0], fun ob h => .inl (by simpa [go_sem, zV, zH, hx, hos, hi0] using h), by simp [go_sem]⟩ ?_)
  intro j hj
  obtain ⟨sa, sb, hst⟩ : ∃ a b, insK x out j = (a, b) := ⟨_, _, rfl⟩
  have hsl2 := yh1 x out j hj
  rw [hst] at hsl2
  have hsl3 : sa.length ≤ j + 1 := by simp only at hsl2; split at hsl2 <;> omega
  refine ya (sA (by simp [go_sem, hst] <;> rfl) ?_)
  refine yc (by first | rfl | (simp [go_sem, zV, zH, hx, hos, hst] <;> rfl)) (fun h1 => ?_) (fun h1 => ?_)
  ·have hlt : j < out.length := by simp at h1; omega
   have hw : IntKind.i64.wrap (↑j + 1) = (j : Int) + 1 := yv (by omega)
   obtain ⟨y, hy, hym⟩ := ym hlt
   have hin := ygR (x := x) hy
   rw [hst] at hin
   have hb2 : (sa.length + 1) * 16 ≤ 140737488355328 := by omega
   have hb3 : (sa.length + 1 + 1) * 16 ≤ 140737488355328 := by omega
   refine yg (ya (yh (ya (ya (yE tyOk tySz 11 (by kernel_rfl) (by decide) ?_)))))
   refine yu 3 (by simp [go_sem] <;> rfl) ?_
   refine zS 22 (by first | rfl | (simp [go_sem, zV, zH, hx, hos, hst, hy, hb2, hb3] <;> rfl)) (fun h2 => ?_) (fun h2 => ?_)
   ·have q1 : sb = false := by simpa using h2
    refine Yv 8 22 true true (by simp [go_sem]) rfl (by simp [go_sem]) rfl rfl (by simp [go_sem, hx, hy, q1] <;> rfl) ?_
    refine yC ?_
    refine aLG 1 22 true (by simp [go_sem, zV, zH] <;> rfl) ?_
    refine aT 1 ?_
    refine ye (yc (by first | rfl | (simp [go_sem, zV, zH, hx, hos, hst, hy, hb2, hb3, q1] <;> rfl)) (fun h3 => ?_) (fun h3 => ?_))
    ·have q2 := h3
     refine sA (by simp [go_sem, q2] <;> rfl) ?_
     refine ya (yE tyOk tySz 8 (by kernel_rfl) (by decide) ?_)
     refine yu 8 (by simp [go_sem, hx, hy] <;> rfl) ?_
     refine yC ?_
     refine aL 1 (by simp [go_sem, zH] <;> rfl) ?_
     refine ye (yc (by first | rfl | (simp [go_sem, zV, zH, hx, hos, hst, hy, hb2, hb3, q1, q2] <;> rfl)) (fun h4 => ?_) (fun h4 => ?_))
     ·have q3 := h4
      refine aR (by simp [go_sem, hx, hb2, q3] <;> rfl) ?_
      refine aR (by simp [go_sem, hy, hb3] <;> rfl) ?_
      refine aS ?_
      exact yq (j + 1) σ.objs.length (σ.toks.length + 1) 0 (hlt) (by omega) ⟨by simp [go_sem, q1, q2, q3, hin, insS], rfl, by simp, by simp, by simp [go_sem, q1, q2, q3, hw, hin, insS], fun ob h => .inl (by simpa [go_sem, zV, zH, hx, hos, hst, hy, hb2, hb3, q1, q2, q3, hw, hin, insS] using h), by simp [go_sem]⟩
     ·have q3 := h4
      refine yg (aR (by simp [go_sem, hy, hb2, q3] <;> rfl) ?_)
      refine aS ?_
      exact yq (j + 1) σ.objs.length (σ.toks.length + 1) 0 (hlt) (by omega) ⟨by simp [go_sem, q1, q2, q3, hin, insS], rfl, by simp, by simp, by simp [go_sem, q1, q2, q3, hw, hin, insS], fun ob h => .inl (by simpa [go_sem, zV, zH, hx, hos, hst, hy, hb2, hb3, q1, q2, q3, hw, hin, insS] using h), by simp [go_sem]⟩
    ·have q2 := h3
     refine yg (aR (by simp [go_sem, hy, hb2, q2] <;> rfl) ?_)
     refine aS ?_
     exact yq (j + 1) σ.objs.length (σ.toks.length + 1) 0 (hlt) (by omega) ⟨by simp [go_sem, q1, q2, hin, insS], rfl, by simp, by simp, by simp [go_sem, q1, q2, hw, hin, insS], fun ob h => .inl (by simpa [go_sem, zV, zH, hx, hos, hst, hy, hb2, hb3, q1, q2, hw, hin, insS] using h), by simp [go_sem]⟩
   ·have q1 : sb = true := by simpa using h2
    refine ykz 8 22 true (by simp [go_sem]) (by simp [go_sem]) rfl rfl ?_
    refine yC ?_
    refine aK 1 22 true ?_
    refine aL 1 (by simp [go_sem, q1] <;> rfl) ?_
    refine ye (yc (b := false) (by simp [go_sem]) (fun h => ?_) (fun h => ?_))
    ·cases h
    refine yg (aR (by simp [go_sem, hy, hb2] <;> rfl) ?_)
    refine aS ?_
    exact yq (j + 1) σ.objs.length (σ.toks.length + 1) 0 (hlt) (by omega) ⟨by simp [go_sem, q1, hin, insS], rfl, by simp, by simp, by simp [go_sem, q1, hw, hin, insS], fun ob h => .inl (by simpa [go_sem, zV, zH, hx, hos, hst, hy, hb2, hb3, q1, hw, hin, insS] using h), by simp [go_sem]⟩
  ·have hke : j = out.length := by simp at h1; omega
   subst hke
   have hb4 : (sa.length + 1) * 16 ≤ 140737488355328 := by omega
   refine yp (yi (yi (yl (ya (sS ?_)))))
   refine yc (by first | rfl | (simp [go_sem, zV, zH, hx, hos, hst, hb4] <;> rfl)) (fun h5 => ?_) (fun h5 => ?_)
   ·have hib : insB out x = (insK x out out.length).1 ++ [x] := by have h := h5; simp at h; unfold insB; rw [hst]; simp [h]
    refine aR (by simp [go_sem, hx, hb4] <;> rfl) ?_
    refine aS ?_
    refine aS ?_
    exact yq (k + 1) σ.objs.length σ.toks.length 0 (hlt) (by omega) ⟨by simp [go_sem, hst, hsn, hib], rfl, by simp, by simp, by simp [go_sem, hst, hw, hsn, hib], fun ob h => .inl (by simpa [go_sem, zV, zH, hx, hos, hst, hb4, hw, hsn, hib] using h), by simp [go_sem]⟩
   ·have hib : insB out x = (insK x out out.length).1 := by have h := h5; simp at h; unfold insB; rw [hst]; simp [h]
    refine yg (aS ?_)
    refine aS ?_
    exact yq (k + 1) σ.objs.length σ.toks.length 0 (hlt) (by omega) ⟨by simp [go_sem, hst, hsn, hib], rfl, by simp, by simp, by simp [go_sem, hst, hw, hsn, hib], fun ob h => .inl (by simpa [go_sem, zV, zH, hx, hos, hst, hb4, hw, hsn, hib] using h), by simp [go_sem]⟩
 ·have hke : k = l.length := by simp at h0; omega
  subst hke
  have hfin : Y9 l l.length = rsort l := rfl
  refine yp (yi (yi (yl (sA (by simp [go_sem, hfin] <;> rfl) ?_))))
  refine yd (eR ?_)
  exact ⟨by simp [go_sem], by simp [go_sem]⟩

set_option maxHeartbeats 2000000 in
theorem yos (d : D) (hd : d.size ≤ 100000000) (hf : formed d = true) : Pur Tryz.prog (GL kr) 17 [.pv (enc d)] (.pv (.slice ((Ys (sfree d [] [])).map .str))) := by
 rw [← yor]
 obtain ⟨vs, hvs⟩ : ∃ z, z = rvars d [] [] := ⟨_, rfl⟩
 have hVr := yrE (kr := kr) d hd hf
 have hvl := yhh d [] []
 have hve : ∀ v, v ∈ vs → v.env.length ≤ 1000000000 := by rw [hvs]; exact fun v hv => by have := ymW v hv; simp at this; omega
 rw [← hvs] at hVr hvl ⊢
 have hr0 : rfK [] [] = [] := rfl
 refine yx fun σ hgl => ?_
 refine yk tyOk Tryz.func17 rfl (by simp [Tryz.f17]) ?_
 refine sS ?_
 refine sS ?_
 refine sG ?_
 refine aT 1 ?_
 refine aG ysg ((hVr) _ (by exact hgl)) ?_
 refine aT 1 ?_
 refine ye (ya (sS ?_))
 refine zt 3 9 1 (by simp [go_sem] <;> rfl) ?_
 refine yh (yo σ.objs.length (σ.toks.length + 1) 1 [2, 4] (fun k : Nat => [(3, .acc ((rfK (vs.take k) []).map .str) σ.toks.length), (5, .pv (.int .i64 ↑k))]) (fun k => { σ with toks := σ.toks ++ [⟨(rfK (vs.take k) []).length, 9, 1⟩] }) (fun k => k ≤ vs.length) (fun k => vs.length - k) 0 (Nat.zero_le _) ⟨by simp [go_sem, hr0], rfl, by simp, by simp, by simp [go_sem, hr0], fun ob h => .inl (by simpa [go_sem, hr0] using h), by simp [go_sem]⟩ ?_)
 intro k hk
 have hrl := ypZ vs k []
 obtain ⟨sa, hsa⟩ : ∃ z, z = rfK (vs.take k) [] := ⟨_, rfl⟩
 have hst := hsa.symm
 rw [hst] at hrl
 simp only [List.length_nil, Nat.zero_add] at hrl
 refine ya (sA (by simp [go_sem, hst] <;> rfl) ?_)
 refine yc (by first | rfl | (simp [go_sem, hst] <;> rfl)) (fun h0 => ?_) (fun h0 => ?_)
 ·have hlt : k < vs.length := by simp at h0; omega
  have hw : IntKind.i64.wrap (↑k + 1) = (k : Int) + 1 := yv (by omega)
  obtain ⟨v, hv, hvm⟩ := ym hlt
  have hin := yiX (S := []) hv
  rw [hst] at hin
  have hb2 : (sa.length + 1) * 16 ≤ 140737488355328 := by omega
  refine yg (ya (yh (sG ?_)))
  refine aL 4 (by simp [go_sem, hv] <;> rfl) ?_
  refine aF yrf ((ypz v (hve v hvm)) _ (by exact hgl)) (by simp [go_sem] <;> rfl) (by simp [go_sem, Z5]) ?_
  refine aT 6 ?_
  refine ye (sG ?_)
  refine aT 3 ?_
  refine yn 26 (by first | rfl | (simp [go_sem, hst, hv, hb2] <;> rfl)) (fun h1 => ?_) (fun h1 => ?_)
  ·have q1 : (YA v.nm v.env).isSome = false := by simpa using h1
   refine aLG 6 26 true (by simp [go_sem, hv, q1] <;> rfl) ?_
   refine yZ 26 true true (by simp [go_sem]) rfl (by simp [go_sem]) rfl rfl (by simp [go_sem] <;> rfl) yfs ((ybt sa (by omega) v.nm) _ (by exact hgl)) (by simp [go_sem] <;> rfl) (by simp [go_sem]) rfl rfl ?_
   refine aLG 1 26 true (by simp [go_sem] <;> rfl) ?_
   refine aT 1 ?_
   refine ye (yc (by first | rfl | (simp [go_sem, hst, hv, hb2, q1] <;> rfl)) (fun h2 => ?_) (fun h2 => ?_))
   ·have q2 : memB sa v.nm = false := by simpa using h2
    refine aR (by simp [go_sem, hv, hb2, q2] <;> rfl) ?_
    refine aS ?_
    exact yq (k + 1) σ.objs.length (σ.toks.length + 1) 1 (hlt) (by omega) ⟨by simp [go_sem, q1, q2, hin, addS], rfl, by simp, by simp, by simp [go_sem, q1, q2, hw, hin, addS], fun ob h => .inl (by simpa [go_sem, hst, hv, hb2, q1, q2, hw, hin, addS] using h), by simp [go_sem]⟩
   ·have q2 : memB sa v.nm = true := by simpa using h2
    refine yg (aR (by simp [go_sem, q2] <;> rfl) ?_)
    exact yq (k + 1) σ.objs.length (σ.toks.length + 1) 1 (hlt) (by omega) ⟨by simp [go_sem, q1, q2, hin, addS], rfl, by simp, by simp, by simp [go_sem, q1, q2, hw, hin, addS], fun ob h => .inl (by simpa [go_sem, hst, hv, hb2, q1, q2, hw, hin, addS] using h), by simp [go_sem]⟩
  ·have q1 : (YA v.nm v.env).isSome = true := by simpa using h1
   refine aK 8 26 true ?_
   refine aL 1 (by simp [go_sem, q1] <;> rfl) ?_
   refine ye (yc (b := false) (by simp [go_sem]) (fun h => ?_) (fun h => ?_))
   ·cases h
   refine yg (aS ?_)
   exact yq (k + 1) σ.objs.length (σ.toks.length + 1) 1 (hlt) (by omega) ⟨by simp [go_sem, q1, hin], rfl, by simp, by simp, by simp [go_sem, q1, hw, hin], fun ob h => .inl (by simpa [go_sem, hst, hv, hb2, q1, hw, hin, addS] using h), by simp [go_sem]⟩
 ·have hke : k = vs.length := by simp at h0; omega
  subst hke
  have hsv : rfK vs [] = sa := by rw [← hst, List.take_length]
  refine yp (yi (yi (yl (sG ?_))))
  refine aT 1 ?_
  refine aG yrA ((ylw sa (by omega)) _ (by exact hgl)) ?_
  refine aT 1 ?_
  refine ye (yd (eR ?_))
  exact ⟨by rw [hsv]; simp [go_sem], by simp [go_sem]⟩

set_option maxHeartbeats 1000000 in
theorem yni (a b : List ByteArray) (hl : a.length ≤ 1000000000) (hl2 : b.length ≤ 1000000000) : Pur Tryz.prog (GL kr) 19 [.pv (.slice (a.map .str)), .pv (.slice (b.map .str))] (.pv (.bool (decide (a = b)))) := by
 refine yx fun σ hgl => ?_
 refine yk tyOk Tryz.func19 rfl (by simp [Tryz.f19]) ?_
 refine sS ?_
 refine ya (sS ?_)
 refine aC (fun h0 => ?_) (fun h0 => ?_)
 ·refine ya (aS ?_)
  refine yd (yf (eR ?_))
  have hs : ¬ a = b := fun e => by subst e; simp at h0
  exact ⟨by simp [go_sem, hs], by simp [go_sem]⟩
 ·have hlen : a.length = b.length := by have := h0; simp only [bne_eq_false_iff_eq] at this; omega
  have hzl : (a.zip b).length = a.length := by simp; omega
  refine yg (ya (sS ?_))
  refine yh (yo σ.objs.length σ.toks.length 0 [0, 1, 4] (fun k : Nat => [(5, .pv (.int .i64 ↑k))]) (fun k => σ) (fun k => k ≤ a.length ∧ NotYet (fun x => !(decide (x.1 = x.2))) (a.zip b) k) (fun k => a.length - k) 0 (⟨Nat.zero_le _, .zero⟩) ⟨by simp [go_sem], rfl, by simp, by simp, by simp [go_sem], fun ob h => .inl (by simpa [go_sem] using h), by simp [go_sem]⟩ ?_)
  rintro k ⟨hk, hn⟩
  refine ya (sS ?_)
  refine aC (fun h1 => ?_) (fun h1 => ?_)
  ·have hlt : k < a.length := by simp at h1; omega
   have hw : IntKind.i64.wrap (↑k + 1) = (k : Int) + 1 := yv (by omega)
   obtain ⟨x, hx, hxm⟩ := ym hlt
   obtain ⟨y, hy, hym⟩ := ym (l := b) (k := k) (by omega)
   refine yg (ya (yh (ya (yE tyOk tySz 8 (by kernel_rfl) (by decide) ?_))))
   refine yu 8 (by simp [go_sem, hx, hy] <;> rfl) ?_
   refine yC ?_
   refine aT 1 ?_
   refine ye (yc (by first | rfl | (simp [go_sem, hx, hy] <;> rfl)) (fun h2 => ?_) (fun h2 => ?_))
   ·refine ya (aS ?_)
    refine yd (yj (yf (yf (yj (yf (eR ?_))))))
    have hs : ¬ a = b := fun e => by subst e; rw [hx] at hy; cases hy; simp at h2
    exact ⟨by simp [go_sem, hs], by simp [go_sem]⟩
   ·refine yg (aS ?_)
    exact yq (k + 1) σ.objs.length σ.toks.length 0 (⟨hlt, hn.succ (ydW hx hy) (by simpa using h2)⟩) (by omega) ⟨by simp [go_sem], rfl, by simp, by simp, by simp [go_sem, hw], fun ob h => .inl (by simpa [go_sem, hx, hy, hw] using h), by simp [go_sem]⟩
  ·have hke : k = a.length := by simp at h1; omega
   subst hke
   have hab : a = b := yn5 hlen hzl hn
   refine yp (yi (yi (yl (sS ?_))))
   refine yd (eR ?_)
   exact ⟨by simp [go_sem, hab], by simp [go_sem]⟩

end Go.Proofs.YtigideidmcmfbaaGreatDoor

namespace Go.Proofs.YtigideidmcmfbaaGreatDoor
open Go Go.Aw
variable {kr : KR}
set_option maxHeartbeats 1000000 in
theorem you (l : List ByteArray) (hl : l.length ≤ 8796093022208) (t : ByteArray) : Pur Tryz.prog (GL kr) 91 [.pv (.slice (l.map .str)), .pv (.str t)] (.pv (.int .i64 (Zw (fun x => decide (t = x)) l))) := by
 refine yx fun σ hgl => ?_
 refine yk tyOk Tryz.func91 rfl (by simp [Tryz.f91]) ?_
 refine sS ?_
 refine ya (sS ?_)
 refine yh (yo σ.objs.length σ.toks.length 0 [0, 1, 4, 7] (fun k : Nat => [(8, .pv (.int .i64 ↑k))]) (fun k => σ) (fun k => k ≤ l.length ∧ NotYet (fun x => decide (t = x)) l k) (fun k => l.length - k) 0 (⟨Nat.zero_le _, .zero⟩) ⟨by simp [go_sem], rfl, by simp, by simp, by simp [go_sem], fun ob h => .inl (by simpa [go_sem] using h), by simp [go_sem]⟩ ?_)
 rintro k ⟨hk, hn⟩
 refine sS ?_
 refine ya (aC (fun h0 => ?_) (fun h0 => ?_))
 ·have hlt : k < l.length := by simp at h0; omega
  have hw : IntKind.i64.wrap (↑k + 1) = (k : Int) + 1 := yv (by omega)
  obtain ⟨x, hx, hxm⟩ := ym hlt
  refine yg (ya (yh (sS ?_)))
  refine sA (by simp [go_sem, hx] <;> rfl) ?_
  refine yc (by first | rfl | (simp [go_sem, hx] <;> rfl)) (fun h1 => ?_) (fun h1 => ?_)
  ·refine ya (aS ?_)
   refine yd (yj (yf (yf (yj (yf (eR ?_))))))
   exact ⟨by simp [go_sem, yap hn hx h1], by simp [go_sem]⟩
  ·refine yg (aS ?_)
   exact yq (k + 1) σ.objs.length σ.toks.length 0 (⟨hlt, hn.succ hx h1⟩) (by omega) ⟨by simp [go_sem], rfl, by simp, by simp, by simp [go_sem, hw], fun ob h => .inl (by simpa [go_sem, hx, hw] using h), by simp [go_sem]⟩
 ·have hke : k = l.length := by simp at h0; omega
  subst hke
  have hno := yaI hn
  refine yp (yi (yi (yl (sS ?_))))
  refine yd (eR ?_)
  exact ⟨by simp [go_sem, hno], by simp [go_sem]⟩

set_option maxHeartbeats 1000000 in
theorem yjs (l : List ByteArray) (hl : l.length ≤ 8796093022208) (t : ByteArray) : Pur Tryz.prog (GL kr) 48 [.pv (.slice (l.map .str)), .pv (.str t)] (.pv (.bool (memB l t))) := by
 refine yx fun σ hgl => ?_
 refine yk tyOk Tryz.func48 rfl (by simp [Tryz.f48]) ?_
 refine sS ?_
 refine sG ?_
 refine aT 2 ?_
 refine aG yse ((you l hl t) _ (by exact hgl)) ?_
 refine aT 2 ?_
 refine ye (yd (eR ?_))
 exact ⟨by unfold memB; simp [go_sem, ← ybl], by simp [go_sem]⟩

set_option maxHeartbeats 1000000 in
theorem yh5 (l : List ByteArray) (hl : l.length ≤ 1000000000) (σ : Store) (hgl : σ.gl = (GL kr)) (f : FuncId) (hc : Callable Tryz.prog f) (caps : List AV) (hcaps : AV.noLs caps = true) (p : ByteArray → Bool) (hp : ∀ x, x ∈ l → zo Tryz.prog σ f (.pv (.str x) :: caps) (.pv (.bool (p x)))) : zo Tryz.prog σ 90 [.pv (.slice (l.map .str)), .func (.func f) caps] (.pv (.int .i64 (Zw p l))) := by
 refine Ya ?_
 refine ycy tyOk Tryz.func90 rfl (by simp [Tryz.f90]) (by simp [go_sem, hcaps]) fun hclo => ?_
 simp [go_sem] at hclo
 refine sS ?_
 refine ya (sS ?_)
 refine yh (yo σ.objs.length σ.toks.length 0 [0, 1, 4, 7] (fun k : Nat => [(8, .pv (.int .i64 ↑k))]) (fun k => σ) (fun k => k ≤ l.length ∧ NotYet (p) l k) (fun k => l.length - k) 0 (⟨Nat.zero_le _, .zero⟩) ⟨by simp [go_sem], rfl, by simp, by simp, by simp [go_sem, hclo], fun ob h => .inl (by simpa [go_sem, hcaps, hclo, AV.clos] using h), by simp [go_sem]⟩ ?_)
 rintro k ⟨hk, hn⟩
 refine sS ?_
 refine ya (yc (by first | rfl | (simp [go_sem, hcaps, hclo] <;> rfl)) (fun h0 => ?_) (fun h0 => ?_))
 ·have hlt : k < l.length := by simp at h0; omega
  have hw : IntKind.i64.wrap (↑k + 1) = (k : Int) + 1 := yv (by omega)
  obtain ⟨x, hx, hxm⟩ := ym hlt
  refine yg (ya (yh (sS ?_)))
  refine sG ?_
  refine aL 5 (by simp [go_sem, hx] <;> rfl) ?_
  refine yaH rfl rfl rfl (by simp [go_sem] <;> rfl) hc (hp x hxm) (by simp [go_sem] <;> rfl) (by simp [go_sem]) (by simp [go_sem, hcaps]) rfl ?_
  refine ye (yc (by first | rfl | (simp [go_sem, hcaps, hclo, hx] <;> rfl)) (fun h1 => ?_) (fun h1 => ?_))
  ·refine ya (aS ?_)
   refine yd (yj (yf (yf (yj (yf (eR ?_))))))
   exact ⟨by simp [go_sem, yap hn hx h1], by simp [go_sem]⟩
  ·refine yg (aS ?_)
   exact yq (k + 1) σ.objs.length σ.toks.length 0 (⟨hlt, hn.succ hx h1⟩) (by omega) ⟨by simp [go_sem], rfl, by simp, by simp, by simp [go_sem, hclo, hw], fun ob h => .inl (by simpa [go_sem, hcaps, hclo, hx, hw] using h), by simp [go_sem]⟩
 ·have hke : k = l.length := by simp at h0; omega
  subst hke
  have hno := yaI hn
  refine yp (yi (yi (yl (sS ?_))))
  refine yd (eR ?_)
  exact ⟨by simp [go_sem, hno], by simp [go_sem]⟩

set_option maxHeartbeats 1000000 in
theorem yf1 (l : List ByteArray) (hl : l.length ≤ 1000000000) (σ : Store) (hgl : σ.gl = (GL kr)) (f : FuncId) (hc : Callable Tryz.prog f) (caps : List AV) (hcaps : AV.noLs caps = true) (p : ByteArray → Bool) (hp : ∀ x, x ∈ l → zo Tryz.prog σ f (.pv (.str x) :: caps) (.pv (.bool (p x)))) : zo Tryz.prog σ 46 [.pv (.slice (l.map .str)), .func (.func f) caps] (.pv (.bool (l.any p))) := by
 refine Ya ?_
 refine yk tyOk Tryz.func46 rfl (by simp [Tryz.f46]) ?_
 refine sS ?_
 refine sG ?_
 refine aT 2 ?_
 refine yaH rfl rfl rfl (by simp [go_sem] <;> rfl) yrJ (yh5 l hl σ hgl f hc caps hcaps p hp) (by simp [go_sem] <;> rfl) (by simp [go_sem]) (by simp [go_sem, hcaps]) rfl ?_
 refine aT 2 ?_
 refine ye (yd (eR ?_))
 exact ⟨by simp [go_sem, ← ybl], by simp [go_sem]⟩

set_option maxHeartbeats 1000000 in
theorem ymk (x : ByteArray) (kn : List ByteArray) (hk : kn.length ≤ 8796093022208) (σ : Store) (hgl : σ.gl = (GL kr)) (o : Nat) (ho : σ.objs[o]? = some (.box [.pv (.slice (kn.map .str))])) : zo Tryz.prog σ 47 [.pv (.str x), .ptr o 0] (.pv (.bool (!memB kn x))) := by
 refine Ya ?_
 refine yk tyOk Tryz.func47 rfl (by simp [Tryz.f47]) ?_
 refine sS ?_
 refine sG ?_
 refine aL 2 (by simp [go_sem, ho] <;> rfl) ?_
 refine aG yrP ((yjs kn hk x) _ (by exact hgl)) ?_
 refine aT 2 ?_
 refine ye (yd (eR ?_))
 exact ⟨by simp [go_sem], by simp [go_sem]⟩

theorem subF : ∀ {p : List Int} {d x : D}, d.sub p = some x → formed d = true → formed x = true
  | [], d, x, h, hf => by simp [D.sub] at h; subst h; exact hf
  | i :: p, d, x, h, hf => by
    simp only [D.sub] at h
    split at h
    · cases h5 : d.kids[i.toNat]? with
      | none => rw [h5] at h; cases h
      | some z =>
        rw [h5] at h
        exact subF (p := p) (d := z) (x := x) (by simpa using h) (yO hf (List.mem_of_getElem? h5))
    · cases h
/-- The names of a right expression are short. -/
theorem yoj : ∀ (d : D), formed d = true → ∀ s, s ∈ sfv d → s.size ≤ 40 := by
  intro d
  induction d using D.indS with
  | h d ih =>
    intro hf s hs
    rw [yl1] at hs
    split at hs
    · rw [List.mem_singleton.1 hs]; exact yjC hf
    · obtain ⟨q, hq, hs⟩ := List.mem_flatMap.1 hs
      exact ih q hq (subF (D.sub_subs hq) hf) s (List.mem_filter.1 hs).1
theorem yng {d : D} (h : sis d = 0) : dcheck d = 0 ∧ Zj d = true := by
  unfold sis schk at h
  split at h
  · rename_i h1
    simp only at h
    rw [h] at h1; cases h1
  · rename_i h1
    split at h
    · cases h
    · rename_i h2
      exact ⟨by simpa using h1, by simpa using h2⟩
theorem ycF {d : D} (hd : d.size ≤ 100000000) (h : sis d = 0) : (sfree d [] []).length ≤ 1000000000 ∧ ∀ s, s ∈ sfree d [] [] → s.size ≤ maxLen := by
  have h1 := ygP d [] []
  simp only [List.length_nil, Nat.zero_add] at h1
  refine ⟨by omega, fun s hs => ?_⟩
  rcases (ynE d [] [] s).1 hs with h2 | ⟨h2, _⟩
  · simp at h2
  · have := yoj d (yaB (yng h).1) s h2
    simp only [maxLen]; omega

set_option maxHeartbeats 1000000 in
theorem yoX (d : D) (hd : d.size ≤ 100000000) : Pur Tryz.prog (GL kr) 13 [.pv (enc d)] (.tuple [.pv (YK d).1, .pv (.int .i64 (YK d).2)]) := by
 refine yx fun σ hgl => ?_
 refine yk tyOk Tryz.func13 rfl (by simp [Tryz.f13]) ?_
 refine sS ?_
 refine ya (sG ?_)
 refine aT 1 ?_
 refine aG ych ((yd1 d hd) _ (by exact hgl)) ?_
 refine aT 1 ?_
 refine ye (sS ?_)
 refine aC (fun h0 => ?_) (fun h0 => ?_)
 ·refine ya (aS ?_)
  refine yd (yf (eR ?_))
  exact ⟨by simp only [YK, h0, if_true]; simp [go_sem], by simp [go_sem]⟩
 ·have hsm := ycF hd (by simpa using h0)
  refine yg (sG ?_)
  refine aT 1 ?_
  refine aG yhZ ((yiv d hd hsm.1 hsm.2) _ (by exact hgl)) ?_
  refine aT 2 ?_
  refine ye (yd (eR ?_))
  exact ⟨by simp only [YK, h0, Bool.false_eq_true, if_false]; simp [go_sem], by simp [go_sem]⟩

/-- What IsClosed says. -/
def Zk (d : D) (kn : List ByteArray) : Bool × Int := if (sis d != 0) = true then (false, sis d) else (!((Ys (sfree d [] [])).any fun s => !memB kn s), 0)
theorem ygO (S : List ByteArray) : (Ys S).length = S.length := by unfold Ys; rw [List.length_map, List.length_mergeSort, List.length_map]

set_option maxHeartbeats 1000000 in
theorem yk3 (d : D) (hd : d.size ≤ 100000000) (kn : List ByteArray) (hk : kn.length ≤ 8796093022208) : Pur Tryz.prog (GL kr) 14 [.pv (enc d), .pv (.slice (kn.map .str))] (.tuple [.pv (.bool (Zk d kn).1), .pv (.int .i64 (Zk d kn).2)]) := by
 refine yx fun σ hgl => ?_
 refine yk tyOk Tryz.func14 rfl (by simp [Tryz.f14]) ?_
 refine ya (yG (sh := [3]) tyOk (by simp [go_sem] <;> rfl) ?_)
 refine ya (sG ?_)
 refine aT 1 ?_
 refine aG ych ((yd1 d hd) _ (by exact hgl)) ?_
 refine aT 1 ?_
 refine ye (sS ?_)
 refine aC (fun h0 => ?_) (fun h0 => ?_)
 ·refine ya (aS ?_)
  refine yd (yf (eR ?_))
  exact ⟨by simp only [Zk, h0, if_true]; simp [go_sem], by simp [go_sem]⟩
 ·have hsm := ycF hd (by simpa using h0)
  refine yg (sG ?_)
  refine aT 1 ?_
  refine aG yhZ ((yiv d hd hsm.1 hsm.2) _ (by exact hgl)) ?_
  refine aT 1 ?_
  refine aG ysi (yf1 (Ys (sfree d [] [])) (by rw [ygO]; exact hsm.1) _ (by exact hgl) 47 yrj [.ptr σ.objs.length 0] rfl (fun s => !memB kn s) (fun x hx => ymk x kn hk _ (by exact hgl) σ.objs.length (by simp [go_sem]))) ?_
  refine aT 3 ?_
  refine ye (yd (eR ?_))
  exact ⟨by simp only [Zk, h0, Bool.false_eq_true, if_false]; simp [go_sem], by simp [go_sem]⟩

end Go.Proofs.YtigideidmcmfbaaGreatDoor

namespace Go.Proofs.YtigideidmcmfbaaGreatDoor
open Go Go.Aw
variable {kr : KR}
/-- The error of the first wrong one. -/
def chkL (l : List D) : Int := match l.find? (fun d => sis d != 0) with
  | some d => sis d
  | none => 0
theorem yoR (d : D) : chkL [d] = sis d := by
  unfold chkL
  rw [List.find?_cons]
  by_cases h : sis d = 0
  · rw [h]; rfl
  · have : (sis d != 0) = true := by simpa using h
    rw [this]
set_option maxHeartbeats 1000000 in
theorem yn9 (l : List D) (hl : l.length ≤ 1000000) (hs : ∀ x, x ∈ l → x.size ≤ 100000000) : Pur Tryz.prog (GL kr) 15 [.pv (.slice (l.map enc))] (.pv (.int .i64 (chkL l))) := by
 have hss : ∀ x, (schk x).2 = sis x := fun _ => rfl
 refine yx fun σ hgl => ?_
 refine yk tyOk Tryz.func15 rfl (by simp [Tryz.f15]) ?_
 refine sS ?_
 refine ya (sS ?_)
 refine yh (yo σ.objs.length σ.toks.length 0 [0, 2] (fun k : Nat => [(3, .pv (.int .i64 ↑k))]) (fun k => σ) (fun k => k ≤ l.length ∧ NotYet (fun d => sis d != 0) l k) (fun k => l.length - k) 0 (⟨Nat.zero_le _, .zero⟩) ⟨by simp [go_sem], rfl, by simp, by simp, by simp [go_sem], fun ob h => .inl (by simpa [go_sem, hss] using h), by simp [go_sem]⟩ ?_)
 rintro k ⟨hk, hn⟩
 refine ya (sS ?_)
 refine yc (by first | rfl | (simp [go_sem, hss] <;> rfl)) (fun h0 => ?_) (fun h0 => ?_)
 ·have hlt : k < l.length := by simp at h0; omega
  have hw : IntKind.i64.wrap (↑k + 1) = (k : Int) + 1 := yv (by omega)
  obtain ⟨x, hx, hxm⟩ := ym hlt
  refine yg (ya (yh (sG ?_)))
  refine aL 4 (by simp [go_sem, hx] <;> rfl) ?_
  refine aG yrH ((ynk x (hs x hxm)) _ (by exact hgl)) ?_
  refine aL 5 (by simp [go_sem, hss] <;> rfl) ?_
  refine ye (sS ?_)
  refine yc (by first | rfl | (simp [go_sem, hss, hx] <;> rfl)) (fun h1 => ?_) (fun h1 => ?_)
  ·refine ya (aS ?_)
   refine yd (yj (yf (yf (yj (yf ?_)))))
   have hM := yfu hn hx h1
   refine eR ?_
   exact ⟨by unfold chkL; rw [hM]; simp [go_sem], by simp [go_sem]⟩
  ·refine yg (aS ?_)
   exact yq (k + 1) σ.objs.length σ.toks.length 0 (⟨hlt, hn.succ hx h1⟩) (by omega) ⟨by simp [go_sem], rfl, by simp, by simp, by simp [go_sem, hw], fun ob h => .inl (by simpa [go_sem, hss, hx, hw] using h), by simp [go_sem]⟩
 ·have hke : k = l.length := by simp at h0; omega
  subst hke
  have hM := yhf hn
  refine yp (yi (yi (yl (sS ?_))))
  refine yd (eR ?_)
  exact ⟨by unfold chkL; rw [hM]; simp [go_sem], by simp [go_sem]⟩

end Go.Proofs.YtigideidmcmfbaaGreatDoor

namespace Go.Proofs.YtigideidmcmfbaaGreatDoor
open Go Go.Aw
variable {kr : KR}
theorem yo1 {x : D} {c : Int} (hc : c = sis x) (h : (c != 0) = true) (kn : List ByteArray) : YK x = (.nils, c) ∧ Zk x kn = (false, c) := by
  subst hc
  unfold YK Zk
  rw [if_pos h, if_pos h]; exact ⟨rfl, rfl⟩
theorem yqG {x : D} (h : sis x = 0) (kn : List ByteArray) : YK x = (.slice ((Ys (sfree x [] [])).map .str), 0) ∧ Zk x kn = ((Ys (sfree x [] [])).all fun s => memB kn s, 0) := by
  unfold YK Zk
  rw [h, if_neg (by decide), if_neg (by decide)]
  refine ⟨rfl, ?_⟩
  congr 1
  rw [List.not_any_eq_all_not]
  congr 1
  funext s
  simp

set_option maxHeartbeats 4000000 in
theorem yjD (d : D) (kn : List ByteArray) (hk : kn.length ≤ 8796093022207) (σ : Store) (hσ : σ = ⟨(GL kr), [], []⟩) : zo Tryz.prog σ 3 [.pv (enc d), .pv (.slice (kn.map .str))] (.pv (.bool true)) := by
 have hgl : σ.gl = (GL kr) := by rw [hσ]
 have hkb : kn.length * 16 ≤ 140737488355328 := by omega
 obtain ⟨x, hx⟩ : ∃ x, x = cutL d := ⟨_, rfl⟩
 have hxs : x.size ≤ 400 := hx ▸ ymv d
 have hdx := yjg x
 have hasz : yX 1 (kn.map PV.str) = true := by unfold yX; rw [List.all_map]; exact List.all_eq_true.2 fun _ _ => rfl
 obtain ⟨c, hc⟩ : ∃ z, z = sis x := ⟨_, rfl⟩
 have hck : chkL [x] = c := by rw [yoR, hc]
 obtain ⟨fl, fe, hF⟩ : ∃ a b, YK x = (a, b) := ⟨_, _, rfl⟩
 obtain ⟨ib, ie, hI⟩ : ∃ a b, Zk x kn = (a, b) := ⟨_, _, rfl⟩
 have hFr : Pur Tryz.prog (GL kr) 13 [.pv (enc x)] (.tuple [.pv fl, .pv (.int .i64 fe)]) := by have h := yoX (kr := kr) x (by omega); rw [hF] at h; exact h
 have hIs : Pur Tryz.prog (GL kr) 14 [.pv (enc x), .pv (.slice (kn.map .str))] (.tuple [.pv (.bool ib), .pv (.int .i64 ie)]) := by have h := yk3 (kr := kr) x (by omega) kn (by omega); rw [hI] at h; exact h
 have hflc : fl.cells = [fl] ∧ fl.nrm = fl := by unfold YK at hF; split at hF <;> (cases hF; exact ⟨rfl, rfl⟩)
 obtain ⟨hfl1, hfl2⟩ := hflc
 have hfl3 : (AV.pv fl).cells = some [.pv fl] := by rw [yeT, hfl1]; rfl
 have hfl4 := hfl2
 unfold PV.nrm at hfl4
 refine Ya ?_
 refine yk tyOk Tryz.func3 rfl (by simp [Tryz.f3]) ?_
 refine sS ?_
 refine sG ?_
 refine aT 1 ?_
 refine aG ym5 ((ylX d x hx) _ (by exact hgl)) ?_
 refine aT 2 ?_
 refine ye (sG ?_)
 refine aT 1 ?_
 refine aG ymq ((hFr) _ (by exact hgl)) ?_
 refine aT 5 ?_
 refine ye (ya (Yj tyOk tySz 9 (by kernel_rfl) (by decide) ?_))
 refine yu 4 (by simp [go_sem, hasz, hkb] <;> rfl) ?_
 refine yR (by first | (intro _ _ hh; exact hh) | simp [go_sem]) rfl rfl rfl rfl (by simp [go_sem] <;> rfl) yrg ((hIs) _ (by exact hgl)) (by simp [go_sem] <;> rfl) (by simp [go_sem]) rfl rfl ?_
 refine yu 4 (by simp [go_sem] <;> rfl) ?_
 refine yC ?_
 refine aT 1 ?_
 refine ye (ya (ya (yo0 (s2 := ⟨[(1, .pv (.slice (kn.map .str))), (2, .lptr 0 0), (5, .lptr 1 0), (6, .pv fl), (7, .pv (.int .i64 fe)), (8, .pv (.bool ib)), (9, .pv (.int .i64 ie))], [[.pv (.int .i64 d.kind), .pv (.int .i64 d.num), .pv (.str d.text), .pv (.slice (d.kids.map enc))], [.pv (.int .i64 x.kind), .pv (.int .i64 x.num), .pv (.str x.text), .pv (.slice (x.kids.map enc))]], σ⟩) σ.objs.length σ.toks.length 2 ⟨by simp [go_sem], by simp [go_sem], by simp, by simp, by simp [go_sem], fun ob h => .inl (by simpa [go_sem] using h), by simp [go_sem]⟩ ?_)))
 refine yN ?_
 refine aT 2 ?_
 refine aG yq1 ((yn9 [x] (by simp) (by intro y hy; rw [List.mem_singleton.1 hy]; omega)) _ (by exact hgl)) ?_
 refine aL 1 (by simp [go_sem, hck] <;> rfl) ?_
 refine ye (sS ?_)
 refine yc (by first | rfl | (simp [go_sem, hasz, hkb, hck, hdx, hfl1, hfl2, hfl3, hfl4] <;> rfl)) (fun h20 => ?_) (fun h20 => ?_)
 ·obtain ⟨hb1, hb2⟩ := yo1 hc h20 kn
  rw [hF] at hb1
  rw [hI] at hb2
  have e1 : fl = .nils := congrArg (·.1) hb1
  have e2 : fe = c := congrArg (·.2) hb1
  have e3 : ib = false := congrArg (·.1) hb2
  have e4 : ie = c := congrArg (·.2) hb2
  subst e1 e3
  subst e2
  subst e4
  refine sG ?_
  refine aT 4 ?_
  refine yn 37 (by first | rfl | (simp [go_sem, hasz, hkb, hck, hdx, hfl1, hfl2, hfl3, hfl4] <;> rfl)) (fun h21 => ?_) (fun h21 => ?_)
  ·refine aLG 3 37 true (by simp [go_sem] <;> rfl) ?_
   refine aT 2 ?_
   refine yn 42 (by first | rfl | (simp [go_sem, hasz, hkb, hck, hdx, hfl1, hfl2, hfl3, hfl4] <;> rfl)) (fun h22 => ?_) (fun h22 => ?_)
   ·refine aLG 2 42 true (by simp [go_sem] <;> rfl) ?_
    refine aT 2 ?_
    refine yn 46 (by first | rfl | (simp [go_sem, hasz, hkb, hck, hdx, hfl1, hfl2, hfl3, hfl4] <;> rfl)) (fun h23 => ?_) (fun h23 => ?_)
    ·refine aLG 3 46 true (by simp [go_sem] <;> rfl) ?_
     refine aT 2 ?_
     refine yn 51 (by first | rfl | (simp [go_sem, hasz, hkb, hck, hdx, hfl1, hfl2, hfl3, hfl4] <;> rfl)) (fun h24 => ?_) (fun h24 => ?_)
     ·refine yZ 51 true true (by simp [go_sem]) rfl (by simp [go_sem]) rfl rfl (by simp [go_sem] <;> rfl) ymr (yko σ hσ) (by simp [go_sem] <;> rfl) (by simp [go_sem]) rfl rfl ?_
      refine aT 2 ?_
      refine ye (yd (yf (eR ?_)))
      exact ⟨by simp [go_sem], by simp [go_sem]⟩
     ·first | (cases h24; done) | (simp at h24; done)
    ·first | (cases h23; done) | (simp at h23; done)
   ·first | (cases h22; done) | (simp at h22; done)
  ·first | (cases h21; done) | (simp at h21; done)
 ·have hz : c = 0 := by simpa using h20
  have hsz : sis x = 0 := by rw [← hc, hz]
  obtain ⟨hb1, hb2⟩ := yqG hsz kn
  rw [hF] at hb1
  rw [hI] at hb2
  have hfm := yaB (yng hsz).1
  have hsm := (ycF (by omega) hsz).1
  obtain ⟨names, hnm⟩ : ∃ z, z = Ys (sfree x [] []) := ⟨_, rfl⟩
  have hnl : names.length ≤ 1000000000 := by rw [hnm, ygO]; exact hsm
  have hRf : Pur Tryz.prog (GL kr) 17 [.pv (enc x)] (.pv (.slice (names.map .str))) := by rw [hnm]; exact yos x (by omega) hfm
  rw [← hnm] at hb1 hb2
  have e1 : fl = .slice (names.map .str) := congrArg (·.1) hb1
  have e2 : fe = 0 := congrArg (·.2) hb1
  have e3 : ib = names.all fun s => memB kn s := congrArg (·.1) hb2
  have e4 : ie = 0 := congrArg (·.2) hb2
  clear hb1 hb2 hF hI
  subst e1 e2 e4
  obtain ⟨al, hal⟩ : ∃ z, z = names.all fun s => memB kn s := ⟨_, rfl⟩
  rw [← hal] at e3
  subst e3
  refine yg (sG ?_)
  refine aT 1 ?_
  refine aG yrI ((hRf) _ (by exact hgl)) ?_
  refine aT 2 ?_
  refine ye (ya (sS ?_))
  refine yh (yo σ.objs.length σ.toks.length 2 [1, 2, 4, 5, 6, 7, 8, 9, 11] (fun k : Nat => [(12, .pv (.bool ((names.take k).all fun s => memB kn s))), (13, .pv (.int .i64 ↑k))]) (fun k => σ) (fun k => k ≤ names.length) (fun k => names.length - k) 0 (Nat.zero_le _) ⟨by simp [go_sem, List.take_zero, List.all_nil], rfl, by simp, by simp, by simp [go_sem, List.take_zero, List.all_nil], fun ob h => .inl (by simpa [go_sem, hasz, hkb, hck, hdx, hfl1, hfl2, hfl3, hfl4, List.take_zero, List.all_nil] using h), by simp [go_sem]⟩ ?_)
  intro k hk
  refine ya (sS ?_)
  refine yc (by first | rfl | (simp [go_sem, hasz, hkb, hck, hdx, hfl1, hfl2, hfl3, hfl4] <;> rfl)) (fun h25 => ?_) (fun h25 => ?_)
  ·have hlt : k < names.length := by simp at h25; omega
   have hw : IntKind.i64.wrap (↑k + 1) = (k : Int) + 1 := yv (by omega)
   obtain ⟨s, hs, hsm⟩ := ym hlt
   have hnx : (names.take (k + 1)).all (fun s => memB kn s) = ((names.take k).all (fun s => memB kn s) && memB kn s) := by rw [yA hs, List.all_append]; simp
   refine yg (ya (yh (yN ?_)))
   refine aT 2 ?_
   refine yn 63 (by first | rfl | (simp [go_sem, hasz, hkb, hck, hdx, hfl1, hfl2, hfl3, hfl4, hs] <;> rfl)) (fun h26 => ?_) (fun h26 => ?_)
   ·have q1 := h26
    refine aLG 5 63 true (by simp [go_sem, hs, q1] <;> rfl) ?_
    refine yZ 63 true true (by simp [go_sem]) rfl (by simp [go_sem]) rfl rfl (by simp [go_sem] <;> rfl) yfs ((ybt kn (by omega) s) _ (by exact hgl)) (by simp [go_sem] <;> rfl) (by simp [go_sem]) rfl rfl ?_
    refine aT 2 ?_
    refine ye (aS ?_)
    exact yq (k + 1) σ.objs.length σ.toks.length 2 (hlt) (by omega) ⟨by simp [go_sem, q1, hnx], rfl, by simp, by simp, by simp [go_sem, q1, hw, hnx], fun ob h => .inl (by simpa [go_sem, hasz, hkb, hck, hdx, hfl1, hfl2, hfl3, hfl4, hs, q1, hw, hnx] using h), by simp [go_sem]⟩
   ·have q1 := h26
    refine aK 6 63 true ?_
    refine aL 2 (by simp [go_sem, q1] <;> rfl) ?_
    refine ye (aS ?_)
    exact yq (k + 1) σ.objs.length σ.toks.length 2 (hlt) (by omega) ⟨by simp [go_sem, q1, hnx], rfl, by simp, by simp, by simp [go_sem, q1, hw, hnx], fun ob h => .inl (by simpa [go_sem, hasz, hkb, hck, hdx, hfl1, hfl2, hfl3, hfl4, hs, q1, hw, hnx] using h), by simp [go_sem]⟩
  ·have hke : k = names.length := by simp at h25; omega
   subst hke
   have hal2 := hal.symm
   refine yp (yi (yi (yl (ya (Yj tyOk tySz 20 (yhl (by kernel_rfl)) (by decide) ?_)))))
   refine yu 3 (by simp [go_sem, hal2] <;> rfl) ?_
   refine zS 73 (by first | rfl | (simp [go_sem, hasz, hkb, hck, hdx, hfl1, hfl2, hfl3, hfl4, hal2] <;> rfl)) (fun h27 => ?_) (fun h27 => ?_)
   ·refine Yv 2 73 true true (by simp [go_sem]) rfl (by simp [go_sem]) rfl rfl (by simp [go_sem] <;> rfl) ?_
    refine ybc 73 true true (by simp [go_sem]) rfl (by first | (intro _ _ hh; exact hh) | simp [go_sem]) (by simp [go_sem]) rfl rfl rfl (by simp [go_sem] <;> rfl) yiR ((yni names names (by omega) (by omega)) _ (by exact hgl)) (by simp [go_sem] <;> rfl) (by simp [go_sem]) rfl rfl ?_
    refine yu 2 (by simp [go_sem] <;> rfl) ?_
    refine zS 78 (by first | rfl | (simp [go_sem, hasz, hkb, hck, hdx, hfl1, hfl2, hfl3, hfl4, hal2] <;> rfl)) (fun h28 => ?_) (fun h28 => ?_)
    ·refine Yv 2 78 true true (by simp [go_sem]) rfl (by simp [go_sem]) rfl rfl (by simp [go_sem] <;> rfl) ?_
     refine yu 2 (by simp [go_sem] <;> rfl) ?_
     refine zS 82 (by first | rfl | (simp [go_sem, hasz, hkb, hck, hdx, hfl1, hfl2, hfl3, hfl4, hal2] <;> rfl)) (fun h29 => ?_) (fun h29 => ?_)
     ·refine Yv 3 82 true true (by simp [go_sem]) rfl (by simp [go_sem]) rfl rfl (by simp [go_sem] <;> rfl) ?_
      refine yu 2 (by simp [go_sem] <;> rfl) ?_
      refine zS 87 (by first | rfl | (simp [go_sem, hasz, hkb, hck, hdx, hfl1, hfl2, hfl3, hfl4, hal2] <;> rfl)) (fun h30 => ?_) (fun h30 => ?_)
      ·refine Yv 2 87 true true (by simp [go_sem]) rfl (by simp [go_sem]) rfl rfl (by simp [go_sem] <;> rfl) ?_
       refine ybc 87 true true (by simp [go_sem]) rfl (by first | (intro _ _ hh; exact hh) | simp [go_sem]) (by simp [go_sem]) rfl rfl rfl (by simp [go_sem] <;> rfl) ym5 ((ylX d x hx) _ (by exact hgl)) (by simp [go_sem] <;> rfl) (by simp [go_sem]) rfl rfl ?_
       refine yC ?_
       refine yZ 87 true true (by simp [go_sem]) rfl (by simp [go_sem]) rfl rfl (by simp [go_sem] <;> rfl) ydw ((yrD x (by omega) x) _ (by exact hgl)) (by simp [go_sem] <;> rfl) (by simp [go_sem]) rfl rfl ?_
       refine aL 2 (by simp [go_sem, hdx] <;> rfl) ?_
       refine yn 93 (by first | rfl | (simp [go_sem, hasz, hkb, hck, hdx, hfl1, hfl2, hfl3, hfl4, hal2] <;> rfl)) (fun h31 => ?_) (fun h31 => ?_)
       ·refine yZ 93 true true (by simp [go_sem]) rfl (by simp [go_sem]) rfl rfl (by simp [go_sem] <;> rfl) ymr (yko σ hσ) (by simp [go_sem] <;> rfl) (by simp [go_sem]) rfl rfl ?_
        refine aT 2 ?_
        refine ye (yd (eR ?_))
        exact ⟨by simp [go_sem], by simp [go_sem]⟩
       ·first | (cases h31; done) | (simp at h31; done)
      ·first | (cases h30; done) | (simp at h30; done)
     ·first | (cases h29; done) | (simp at h29; done)
    ·first | (cases h28; done) | (simp at h28; done)
   ·first | (cases h27; done) | (simp at h27; done)

end Go.Proofs.YtigideidmcmfbaaGreatDoor

namespace Go.Proofs.YtigideidmcmfbaaGreatDoor
open Go Go.Aw
variable {kr : KR}
theorem dty : DatumTy Tryz.prog 24 22 3 2 9 :=
  { und := ⟨_, _, _, _, Tryz.underlying24, rfl, rfl, rfl, rfl, rfl, rfl, rfl, rfl⟩, i := Tryz.underlying3, n := Tryz.underlying2, s := Tryz.underlying9, k := Tryz.underlying22, cD := by kernel_rfl, ci := by kernel_rfl, cn := by kernel_rfl, cs := by kernel_rfl, ck := by kernel_rfl }
theorem yri : Tryz.prog.globalNamed "pagoda/syntax.words" = some 0 := by kernel_rfl
theorem yrQ : (Tryz.prog.globals[0]?).map (·.type) = some 116 := by kernel_rfl
theorem tPow : (Tryz.prog.globals[1]?).map (·.type) = some 233 := by kernel_rfl
theorem ynM : (Rows.laid_internal_strconv_uint64pow10 : DataW Unit) = Lib.tabData .u64 Lib.pow10Tab := by kernel_rfl
def wdS : List (List UInt8 × Int) := [([102, 110], 5), ([105, 102], 4), ([108, 101, 116], 6), ([113, 117, 111, 116, 101], 3), ([114, 101, 99], 7), ([115, 101, 113], 8), ([117, 112], 9)]
theorem ylk : (Rows.laid_pagoda_syntax_words : DataW Unit) = .map (wdS.map ybo) := by kernel_rfl
theorem yoP : wdS.Perm yb4 := List.isPerm_iff.1 (by kernel_rfl)
set_option maxRecDepth 100000 in
/-- What the row's listed variables are when the call begins. -/
theorem ypC {W : World} (h : laidMetH Tryz.prog [("math/bits.deBruijn32tab", Rows.laid_math_bits_deBruijn32tab), ("math/bits.deBruijn64tab", Rows.laid_math_bits_deBruijn64tab), ("internal/strconv.uint64pow10", Rows.laid_internal_strconv_uint64pow10), ("pagoda/syntax.words", Rows.laid_pagoda_syntax_words)] W) :
    ∃ kr : KR, ∀ n p, (n, p) ∈ (GL kr) → RP W.heap.size (fun _ _ => False) W p (.pointer (some ⟨n, 0, none⟩)) := by
  rw [MakeChecks.laidMetH_plain _ _ _ (by kernel_rfl)] at h
  obtain ⟨ps, ⟨_, _, _, _, _, _, _, _, _, _, ⟨_, _, _, _, _, _, _, _, _, _, ⟨g2, t2, cs2, f2, p2, q2, hg2, ht2, hv2, hd2, ⟨g7, t7, cs7, f7, p7, q7, hg7, ht7, hv7, hd7, _, _⟩, _⟩, _⟩, _⟩, _, _⟩ := h
  obtain rfl := Option.some.inj (yri.symm.trans hg7)
  obtain rfl := Option.some.inj (gPow.symm.trans hg2)
  obtain rfl := Option.some.inj (yrQ.symm.trans ht7)
  obtain rfl := Option.some.inj (tPow.symm.trans ht2)
  rw [ylk] at hd7
  obtain ⟨bw, krw, hc7, hrp7⟩ := yla (S := fun _ _ => False) Tryz.underlying116 Tryz.underlying9 Tryz.underlying3 hd7 yoP
  rw [ynM] at hd2
  have hc2 := Lib.cells_of_tab Tryz.underlying233 Tryz.underlying141 (by kernel_rfl) (by kernel_rfl) hd2
  have hblk : ∃ e c, W.heap[(1 : Nat)]? = some (.cells (Lib.pow10Tab.map (Value.int .u64)).toArray e c) := by
    simp only [World.var?, gPow, Option.bind_some] at hv2
    split at hv2
    · rename_i cs e c hh
      cases hv2
      refine ⟨e, c, ?_⟩
      rw [hh, ← Array.toArray_toList (xs := cs2), hc2]
    · cases hv2
  obtain ⟨e2', c2, hblk⟩ := hblk
  have hcell7 : W.cell? ⟨0, 0, none⟩ = some (.map (some bw)) := by
    have := World.var?_cell hg7 hv7 0
    rw [Array.eq_one_of_toList hc7] at this
    simpa using this
  refine ⟨krw, fun n p hm => ?_⟩
  simp only [GL, List.cons_append, List.nil_append, List.mem_cons, Prod.mk.injEq, List.not_mem_nil, or_false] at hm
  rcases hm with ⟨rfl, rfl⟩ | ⟨rfl, rfl⟩
  · first | exact ymA (ykw hcell7) hcell7 rfl hrp7 | exact RP.tab (by by_cases hlt : 1 < W.heap.size; exact hlt; rw [Array.getElem?_eq_none (by show W.heap.size ≤ _; omega)] at hblk; cases hblk) hblk
  · first | exact ymA (ykw hcell7) hcell7 rfl hrp7 | exact RP.tab (by by_cases hlt : 1 < W.heap.size; exact hlt; rw [Array.getElem?_eq_none (by show W.heap.size ≤ _; omega)] at hblk; cases hblk) hblk

end Go.Proofs.YtigideidmcmfbaaGreatDoor

namespace Go.Proofs.YtigideidmcmfbaaGreatDoor
open Go Go.Aw
variable {kr : KR}
open Go.ChangeShapes Go.WideShapes Go.ChangeAt Go.WideMaps Go.WideElems Go.RowKit
theorem own : ownKnob Tryz.prog.godebug = none := by kernel_rfl
theorem ykI : laidOutB Tryz.prog = true := by kernel_rfl
theorem yot (os : Os) (args : Array Value) : laidMetH Tryz.prog Rows.scopeFreeRow.laid ((World.doorLaid Tryz.prog 400 os).forCall (fun _ _ => 0) ⟨#[], args, []⟩).memory :=
  laidMetH_of_parts3 (fuel := 8) (laidMet_of_run' 8 (by kernel_rfl) (by kernel_rfl)) (by kernel_rfl) (by kernel_rfl)
/-- The call, as the machine makes it. -/
theorem yfC {W : World} (hL : laidMetH Tryz.prog Rows.scopeFreeRow.laid W) {v0 v1 : Value} {d0 : D} {d1 : List ByteArray} (h0 : RP W.heap.size (fun _ _ => False) W (enc d0) v0) (h1 : RP W.heap.size (fun _ _ => False) W (.slice (d1.map .str)) v1) (b1 : d1.length ≤ 8796093022207) :
    Calls Tryz.prog 3 #[v0, v1] W fun r W' => r = .returned (.bool true) ∧ Below W.heap.size W W' := by
  obtain ⟨kr, hg⟩ := ypC hL
  refine (yjD (kr := kr) d0 d1 b1 ⟨(GL kr), [], []⟩ rfl (g0 W) W [v0, v1] (inv0 hg) rfl (fun i x v hx hv => ?_)).mono ?_
  · match i with
    | 0 => simp at hx hv; subst hx hv; exact .pv h0
    | 1 => simp at hx hv; subst hx hv; exact .pv h1
    | i + 2 => simp at hx
  · rintro r W' ⟨v, x, σ', g', rfl, ⟨rfl, rfl⟩, _, hext, hra⟩
    rw [hra.pv_inv.bool_inv]
    exact ⟨rfl, yoi hext⟩
abbrev ylQ : Value := .agg #[.int .i64 0, .int .i64 0, .string ⟨#[]⟩, .slice none 0 0]
set_option maxRecDepth 100000 in
theorem yeV (os : Os) (started : os.Started) (H : Type) (enc' : TypeId × Value → H) :
    ReturnsInHanded {} Tryz.checked os 3 .any (fun w args => (Rows.scopeFreeSpec.pre enc' Tryz.prog Tryz.f3 [] false w args ∧ laidMetH Tryz.prog Rows.scopeFreeRow.laid w) ∧ sizedMet enc' Tryz.prog Tryz.f3 (OpenSpec.ofChange Rows.scopeFreeSpec) false w args)
      (Rows.scopeFreeSpec.post enc' Tryz.prog Tryz.f3 false true false false) := by
  refine returnsInHanded_of_change_and (C := Tryz.checked) (X := fun w _ => laidMetH Tryz.prog Rows.scopeFreeRow.laid w) (fun _ _ _ hh h => h.of_heap hh) own started (by kernel_rfl) Tryz.func3
    (ChangeSpec.witness_shaped (enc := enc') (C := Tryz.checked) (os := os) (X := fun w _ => laidMetH Tryz.prog Rows.scopeFreeRow.laid w) false (World.doorLaid Tryz.prog 400 os) #[ylQ, .slice none 0 0] 8 rfl (World.shaped_of_RefB (by kernel_rfl) (by kernel_rfl)) (by kernel_rfl) (by kernel_rfl) (by kernel_rfl) (yot os _)) ?_
  intro W base args ds gs before hval0 hW _ hwt hL _
  have hW' := hW
  obtain ⟨p, q, hA0, hV, rfl, hfz, hnd⟩ := hW
  have hA : DataW.TrodAll enc' Tryz.prog W 0 (fun _ => true) true Tryz.f3.params.toList args.toList ds p := hA0
  rw [Tryz.params3] at hA
  obtain ⟨v0, v1, x0, x1, p0, p1, rfl, rfl, rfl, h0, h1⟩ := trodAll_two hA
  obtain ⟨rfl, rfl⟩ := trodVars_none hV
  clear hA0
  simp only [List.append_nil] at hW'
  obtain ⟨n0, t0⟩ := id h0
  obtain ⟨n1, t1⟩ := id h1
  obtain ⟨e0, u0, hc0, ho0, hr0⟩ := ylc (S := fun _ _ => False) dty n0 _ _ t0
  have hv0 := ypc hc0
  obtain ⟨e1, u1, hc1, hr1, hz1⟩ := ymp (S := fun _ _ => False) Tryz.underlying25 Tryz.underlying9 (by kernel_rfl) t1
  have hv1 := yjV Tryz.underlying25 (hval0 1 25 v1 rfl rfl) hc1
  have w1 : e1.length ≤ 8796093022207 := by have := yoo (yf0 hwt (j := 1) (t := 25) (by kernel_rfl) rfl) Tryz.underlying25 (sz := 16) (by kernel_rfl) hz1; omega
  clear hval0
  have hlt := hW'.lt
  refine (yfC hL (hv0 ▸ ynJ ho0 hr0) (hv1 ▸ hr1) w1).mono fun r W' ⟨hr, hb⟩ => ?_
  subst hr
  exact ⟨_, rfl, yhu (pa := p0 ++ p1) (pv := []) hW' (fun _ _ _ => trodAll_mk1 (shut_bool Tryz.underlying4 true))
    (fun sp hs => trodAll_mk2 (Trod_stays ykI (by kernel_rfl) (of_decide_eq_true (by kernel_rfl)) h0 (fun x hx => hb.same (hlt x (by simp [hx]))) (fun x hx => hs x (by simp [hx]))) (Trod_stays ykI (by kernel_rfl) (of_decide_eq_true (by kernel_rfl)) h1 (fun x hx => hb.same (hlt x (by simp [hx]))) (fun x hx => hs x (by simp [hx]))))
    (fun _ _ => rfl) (by simp) hb (ok_one (by kernel_rfl) rfl (okWide_bool_mk Tryz.underlying4 _))⟩
set_option maxHeartbeats 40000000 in
theorem yfZ : Rows.ScopeFreeSaid :=
  OpenClaim.holds_of_wide 3 Tryz.f3 rfl rfl rfl rfl rfl rfl rfl ⟨rfl, rfl, rfl, rfl, rfl⟩ rfl rfl rfl rfl rfl (by decide +kernel) Tryz.func3 (by unfold joinedFacts; simp only [Bool.and_eq_true]; (repeat' apply And.intro) <;> decide +kernel)
    (by decide +kernel) (by unfold Func.isWrapper; rw [if_neg (by decide +kernel)]; exact ⟨rfl, rfl⟩)
    (fun os started H enc _ => yeV os started H enc)
set_option maxHeartbeats 40000000 in
/-- The tied card. -/
theorem scopeFreeCard_holds : Rows.ScopeFreeCardSaid :=
  Claim7.holds_tied_plain_at .later [] [.data, .data, .data, .mapped] true (true, "5840acd6a9c41cc48ca146710c815c1ac9039654964f322dfef91e7ed1637ff4") false
    yfZ (fun _ h => by cases h) (by decide +kernel) (fun _ h => by cases h) scopeFree_row_tie rfl ⟨rfl, rfl⟩ (by decide +kernel) rfl
    (fun f fn hf hfn => by
      obtain rfl : f = 3 := Option.some.inj ((show Tryz.prog.funcNamed "pagoda/pagodalaw06.ScopeFree" = some 3 by decide +kernel).symm.trans hf) |>.symm
      obtain rfl : fn = Tryz.f3 := (Option.some.inj (Tryz.func3.symm.trans hfn)).symm
      exact ⟨by decide +kernel, fun j t ht => by
        rw [Tryz.params3] at ht
        rcases j with _ | _ | j
        · obtain rfl : 24 = t := by simpa using ht
          exact (show Tryz.prog.wantsStandIn 24 = false by decide +kernel)
        · obtain rfl : 25 = t := by simpa using ht
          exact (show Tryz.prog.wantsStandIn 25 = false by decide +kernel)
        · simp at ht⟩)
    (by decide +kernel)
end Go.Proofs.YtigideidmcmfbaaGreatDoor
