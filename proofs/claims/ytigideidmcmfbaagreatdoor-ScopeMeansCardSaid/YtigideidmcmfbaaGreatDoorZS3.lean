/- Part of the proof that the statement holds for every input that its row lets in: the contracts of the program's functions, printed by a program out of annotations; the statement itself stands at the end of the last part. -/
import Derived.Test.YtigideidmcmfbaaGreatDoorZS2
import Derived.Test.YtigideidmcmfbaaGreatDoorZA4
import Derived.Test.YtigideidmcmfbaaGreatDoorZA3
import Derived.Test.YtigideidmcmfbaaGreatDoorZS1
import Derived.Test.YtigideidmcmfbaaGreatDoorRows
import Derived.Test.YtigideidmcmfbaaGreatDoorCards
import Derived.Test.YtigideidmcmfbaaGreatDoorTie
import Derived.Test.YtigideidmcmfbaaGreatDoorZA5
set_option linter.unusedSimpArgs false
set_option linter.unusedVariables false
namespace Go.Proofs.YtigideidmcmfbaaGreatDoor
open Go Go.Aw
variable {kr : KR}
set_option maxHeartbeats 1000000 in
theorem yg3 (l : List ByteArray) (hl : l.length ≤ 8796093022208) (s : ByteArray) : Pur Tryz.prog (GL kr) 18 [.pv (.slice (l.map .str)), .pv (.str s)] (.pv (.bool (memB l s))) := by
 rw [ye1]
 refine yB fun σ hgl => ?_
 refine yk tyOk Tryz.func18 rfl (by simp [Tryz.f18]) ?_
 refine sS ?_
 refine ya (sS ?_)
 refine yh (yq σ.objs.length σ.toks.length 0 [0, 1, 4] (fun k : Nat => [(5, .pv (.int .i64 ↑k))]) (fun k => σ) (fun k => k ≤ l.length ∧ NotYet (fun y => decide (y = s)) l k) (fun k => l.length - k) 0 (⟨Nat.zero_le _, .zero⟩) ⟨by simp [go_sem], rfl, by simp, by simp, by simp [go_sem], fun ob h => .inl (by simpa [go_sem] using h), by simp [go_sem]⟩ ?_)
 rintro k ⟨hk, hn⟩
 refine ya (sS ?_)
 refine aC (fun h0 => ?_) (fun h0 => ?_)
 ·have hlt : k < l.length := by simp at h0; omega
  have hw : IntKind.i64.wrap (↑k + 1) = (k : Int) + 1 := yv (by omega)
  obtain ⟨x, hx, hxm⟩ := ym hlt
  refine yg (ya (yh (sA (by simp [go_sem, hx] <;> rfl) ?_)))
  refine yc (by first | rfl | (simp [go_sem, hx] <;> rfl)) (fun h1 => ?_) (fun h1 => ?_)
  ·refine ya (aS ?_)
   refine yd (yi (yf (yf (yi (yf (eR ?_))))))
   have hany : (l.any fun y => decide (y = s)) = true := ZH (p := fun y => decide (y = s)) hx h1
   exact ⟨by simp only [hany]; simp [go_sem], by simp [go_sem]⟩
  ·refine yg (aS ?_)
   exact yx (k + 1) σ.objs.length σ.toks.length 0 (⟨hlt, hn.succ hx h1⟩) (by omega) ⟨by simp [go_sem], rfl, by simp, by simp, by simp [go_sem, hw], fun ob h => .inl (by simpa [go_sem, hx, hw] using h), by simp [go_sem]⟩
 ·have hke : k = l.length := by simp at h0; omega
  subst hke
  have hany := hn.any
  refine yp (yj (yj (yl (sS ?_))))
  refine yd (eR ?_)
  exact ⟨by simp only [hany]; simp [go_sem], by simp [go_sem]⟩

set_option maxHeartbeats 1000000 in
theorem ydG (d : D) (hf : formed d = true) : Pur Tryz.prog (GL kr) 149 [.pv (enc d)] (.pv (.bool (nmS d))) := by
 refine yB fun σ hgl => ?_
 refine yk tyOk Tryz.func149 rfl (by simp [Tryz.f149]) ?_
 refine sS ?_
 refine sG ?_
 refine aT 4 ?_
 refine yn 6 (by first | rfl | (simp [go_sem] <;> rfl)) (fun h0 => ?_) (fun h0 => ?_)
 ·refine aLG 2 6 true (by simp [go_sem] <;> rfl) ?_
  refine yY 6 true true (by simp [go_sem]) rfl (by simp [go_sem]) rfl rfl (by simp [go_sem] <;> rfl) ymh ((yjb d.text) _ (by exact hgl)) (by simp [go_sem] <;> rfl) (by simp [go_sem]) rfl rfl ?_
  refine aT 2 ?_
  refine ye (yd (eR ?_))
  exact ⟨by rw [← ydA hf]; simp only [h0, bE]; simp [go_sem], by simp [go_sem]⟩
 ·refine aK 3 6 true ?_
  refine aT 2 ?_
  refine ye (yd (eR ?_))
  exact ⟨by rw [← ydA hf]; simp only [h0, bG]; simp [go_sem], by simp [go_sem]⟩

set_option maxHeartbeats 1000000 in
theorem ycL (d : D) (hd : d.size ≤ 1000000000) (hf : ∀ x, x ∈ d.kids → formed x = true) : Pur Tryz.prog (GL kr) 168 [.pv (enc d)] (.tuple [.pv (if Zy d.kids = true then .nils else .slice ((d.kids.map D.text).map .str)), .pv (.bool (!Zy d.kids && d.kind == 3))]) := by
 have hkl := D.kids_length_lt d
 have ht0 : ((d.kids.map D.text).take 0) = [] := rfl
 refine yB fun σ hgl => ?_
 refine yk tyOk Tryz.func168 rfl (by simp [Tryz.f168]) ?_
 refine sS ?_
 refine sS ?_
 refine ya (sS ?_)
 refine zF 4 9 1 (by simp [go_sem] <;> rfl) ?_
 refine yh (yq σ.objs.length (σ.toks.length + 1) 1 [1, 2, 3] (fun k : Nat => [(4, .acc (((d.kids.map D.text).take k).map .str) σ.toks.length), (5, .pv (.int .i64 ↑k))]) (fun k => { σ with toks := σ.toks ++ [⟨k, 9, 1⟩] }) (fun k => k ≤ d.kids.length ∧ NotYet (YY d.kids) (List.range d.kids.length) k) (fun k => d.kids.length - k) 0 (⟨Nat.zero_le _, .zero⟩) ⟨by simp [go_sem, ht0], rfl, by simp, by simp, by simp [go_sem, ht0], fun ob h => .inl (by simpa [go_sem, ht0] using h), by simp [go_sem]⟩ ?_)
 rintro k ⟨hk, hn⟩
 refine ya (sS ?_)
 refine aC (fun h0 => ?_) (fun h0 => ?_)
 ·have hlt : k < d.kids.length := by simp at h0; omega
  have hw : IntKind.i64.wrap (↑k + 1) = (k : Int) + 1 := yv (by omega)
  obtain ⟨x, hx, hxm⟩ := ym hlt
  have hr : (List.range d.kids.length)[k]? = some k := by simp [hlt]
  have hba := yfE hx
  have hnx : ((d.kids.map D.text).take (k + 1)).map PV.str = (((d.kids.map D.text).take k).map .str) ++ [.str x.text] := by rw [yI (x := x.text) (by rw [List.getElem?_map, hx]; rfl)]; simp
  have hm : min k d.kids.length = k := by omega
  have hb2 : (k + 1) * 16 ≤ 140737488355328 := by omega
  refine yg (ya (yh (ya (sG ?_))))
  refine aL 5 (by simp [go_sem, hx] <;> rfl) ?_
  refine aG ygK ((ydG x (hf x hxm)) _ (by exact hgl)) ?_
  refine aT 2 ?_
  refine yn 20 (by first | rfl | (simp [go_sem, hx, hm, hb2] <;> rfl)) (fun h1 => ?_) (fun h1 => ?_)
  ·refine aK 8 20 false ?_
   refine aT 1 ?_
   refine ye (yc (b := true) (by simp [go_sem]) (fun h => ?_) (fun h => ?_))
   rotate_left
   ·cases h
   refine sS ?_
   refine yd (yf (yi (yf (yf (yi (yf ?_))))))
   have hlb : Zy d.kids = true := List.any_eq_true.2 ⟨k, List.mem_range.2 hlt, by rw [hba]; simp only [h1, bA]⟩
   refine eR ?_
   exact ⟨by rw [hlb]; simp [go_sem], by simp [go_sem]⟩
  ·refine aLG 7 20 false (by simp [go_sem, hx] <;> rfl) ?_
   refine yY 20 false false (by simp [go_sem]) rfl (by simp [go_sem]) rfl rfl (by simp [go_sem] <;> rfl) ymN ((yg3 ((d.kids.map D.text).take k) (by simp; omega) x.text) _ (by exact hgl)) (by simp [go_sem] <;> rfl) (by simp [go_sem]) rfl rfl ?_
   refine aT 1 ?_
   refine ye (yc (by first | rfl | (simp [go_sem, hx, hm, hb2] <;> rfl)) (fun h2 => ?_) (fun h2 => ?_))
   ·refine ya (aS ?_)
    refine yd (yf (yi (yf (yf (yi (yf ?_))))))
    have hlb : Zy d.kids = true := List.any_eq_true.2 ⟨k, List.mem_range.2 hlt, by rw [hba]; simp only [h1, h2, bB]⟩
    refine eR ?_
    exact ⟨by rw [hlb]; simp [go_sem], by simp [go_sem]⟩
   ·refine yg (aR (by simp [go_sem, hx, hm, hb2] <;> rfl) ?_)
    refine aS ?_
    exact yx (k + 1) σ.objs.length (σ.toks.length + 1) 1 (⟨hlt, hn.succ hr (by rw [hba]; simp only [h1, h2, bD])⟩) (by omega) ⟨by simp [go_sem, hnx], rfl, by simp, by simp, by simp [go_sem, hw, hnx], fun ob h => .inl (by simpa [go_sem, hx, hm, hb2, hw, hnx] using h), by simp [go_sem]⟩
 ·have hke : k = d.kids.length := by simp at h0; omega
  subst hke
  have hlb : Zy d.kids = false := NotYet.any (by simpa using hn)
  have hta : (d.kids.map D.text).take d.kids.length = d.kids.map D.text := List.take_of_length_le (by simp)
  refine yp (yj (yj (yl (ya (yG tyOk tySz 5 (by kernel_rfl) (by decide) ?_)))))
  refine yo 5 (by simp [go_sem] <;> rfl) ?_
  refine yF ?_
  refine aT 1 ?_
  refine ye (yd (eR ?_))
  exact ⟨by rw [hlb]; simp [go_sem], by simp [go_sem]⟩

set_option maxHeartbeats 1000000 in
theorem yc3 (d : D) (hd : d.size ≤ 1000000000) (hf : formed d = true) : Pur Tryz.prog (GL kr) 148 [.pv (enc d)] (.pv (.bool (Yf d 8))) := by
 have hkl := D.kids_length_lt d
 rw [ZU]
 refine yB fun σ hgl => ?_
 refine yk tyOk Tryz.func148 rfl (by simp [Tryz.f148]) ?_
 refine sS ?_
 refine sG ?_
 refine aT 1 ?_
 refine aG yd5 ((ycL d hd (fun x hx => yT hf hx)) _ (by exact hgl)) ?_
 refine aT 5 ?_
 refine ye (sG ?_)
 refine aT 2 ?_
 refine yn 11 (by first | rfl | (simp [go_sem] <;> rfl)) (fun h0 => ?_) (fun h0 => ?_)
 ·have hlb : Zy d.kids = false := by have := h0; simp at this; exact this.1
  have hk3 : (d.kind == 3) = true := by have := h0; simp at this; simpa using this.2
  refine aLG 3 11 true (by simp [go_sem, hlb, Bool.false_eq_true] <;> rfl) ?_
  refine aT 2 ?_
  refine ye (yd (eR ?_))
  exact ⟨by simp only [hlb, hk3, bE, bF, bJ]; simp [go_sem], by simp [go_sem]⟩
 ·refine aK 3 11 true ?_
  refine aT 2 ?_
  refine ye (yd (eR ?_))
  exact ⟨by simp only [h0, bG]; simp [go_sem], by simp [go_sem]⟩

set_option maxHeartbeats 1000000 in
theorem yoq (d : D) (hd : d.size ≤ 1000000000) (hf : formed d = true) : Pur Tryz.prog (GL kr) 150 [.pv (enc d)] (.pv (.bool (zP d))) := by
 have hkl := D.kids_length_lt d
 rw [yoL]
 have ht0 : ((d.kids.map fun x => x.head.text).take 0) = [] := rfl
 refine yB fun σ hgl => ?_
 refine yk tyOk Tryz.func150 rfl (by simp [Tryz.f150]) ?_
 refine sS ?_
 refine sS ?_
 refine ya (sS ?_)
 refine zF 3 9 1 (by simp [go_sem] <;> rfl) ?_
 refine yh (yq σ.objs.length (σ.toks.length + 1) 1 [1, 2] (fun k : Nat => [(3, .acc (((d.kids.map fun x => x.head.text).take k).map .str) σ.toks.length), (4, .pv (.int .i64 ↑k))]) (fun k => { σ with toks := σ.toks ++ [⟨k, 9, 1⟩] }) (fun k => k ≤ d.kids.length ∧ NotYet (gBad d.kids) (List.range d.kids.length) k) (fun k => d.kids.length - k) 0 (⟨Nat.zero_le _, .zero⟩) ⟨by simp [go_sem, ht0], rfl, by simp, by simp, by simp [go_sem, ht0], fun ob h => .inl (by simpa [go_sem, ht0] using h), by simp [go_sem]⟩ ?_)
 rintro k ⟨hk, hn⟩
 refine ya (sS ?_)
 refine aC (fun h0 => ?_) (fun h0 => ?_)
 ·have hlt : k < d.kids.length := by simp at h0; omega
  have hw : IntKind.i64.wrap (↑k + 1) = (k : Int) + 1 := yv (by omega)
  obtain ⟨x, hx, hxm⟩ := ym hlt
  have hr : (List.range d.kids.length)[k]? = some k := by simp [hlt]
  have hba := yqq hx
  have hnx : ((d.kids.map fun x => x.head.text).take (k + 1)).map PV.str = (((d.kids.map fun x => x.head.text).take k).map .str) ++ [.str x.head.text] := by rw [yI (x := x.head.text) (by rw [List.getElem?_map, hx]; rfl)]; simp
  have hm : min k d.kids.length = k := by omega
  have hb2 : (k + 1) * 16 ≤ 140737488355328 := by omega
  refine yg (ya (yh (sA (by simp [go_sem, hx] <;> rfl) ?_)))
  refine ya (sG ?_)
  refine aT 4 ?_
  refine yn 21 (by first | rfl | (simp [go_sem, hx, hm, hb2] <;> rfl)) (fun h1 => ?_) (fun h1 => ?_)
  ·refine aK 4 21 false ?_
   refine aT 2 ?_
   refine aK 6 27 false ?_
   refine aT 2 ?_
   refine aK 7 35 false ?_
   refine aT 2 ?_
   refine aK 6 44 false ?_
   refine aT 1 ?_
   refine ye (yc (b := true) (by simp [go_sem]) (fun h => ?_) (fun h => ?_))
   rotate_left
   ·cases h
   refine sS ?_
   refine yd (yf (yi (yf (yf (yi (yf ?_))))))
   have hlb : (List.range d.kids.length).any (gBad d.kids) = true := List.any_eq_true.2 ⟨k, List.mem_range.2 hlt, by rw [hba]; first | (rw [hh0, hd1]; simp only [Bool.not_true, hx, hm, hb2, h0, h1, bA, bB, bC, bD, bE, bF, bG, bH, bI, bJ, Bool.false_eq_true, if_true, if_false]; done) | (simp only [h1, bA]; done)⟩
   refine eR ?_
   exact ⟨by rw [hlb]; simp [go_sem], by simp [go_sem]⟩
  ·refine aLG 4 21 false (by simp [go_sem] <;> rfl) ?_
   refine aT 2 ?_
   refine yn 27 (by first | rfl | (simp [go_sem, hx, hm, hb2] <;> rfl)) (fun h2 => ?_) (fun h2 => ?_)
   ·refine aK 6 27 false ?_
    refine aT 2 ?_
    refine aK 7 35 false ?_
    refine aT 2 ?_
    refine aK 6 44 false ?_
    refine aT 1 ?_
    refine ye (yc (b := true) (by simp [go_sem]) (fun h => ?_) (fun h => ?_))
    rotate_left
    ·cases h
    refine sS ?_
    refine yd (yf (yi (yf (yf (yi (yf ?_))))))
    have hlb : (List.range d.kids.length).any (gBad d.kids) = true := List.any_eq_true.2 ⟨k, List.mem_range.2 hlt, by rw [hba]; first | (rw [hh0, hd1]; simp only [Bool.not_true, hx, hm, hb2, h0, h1, h2, bA, bB, bC, bD, bE, bF, bG, bH, bI, bJ, Bool.false_eq_true, if_true, if_false]; done) | (simp only [h1, h2, bA, bB]; done)⟩
    refine eR ?_
    exact ⟨by rw [hlb]; simp [go_sem], by simp [go_sem]⟩
   ·have hl3 : x.kids.length = 3 := by have h := h2; simp at h; omega
    obtain ⟨y1, hy1, hy1m⟩ := ym (l := x.kids) (k := 1) (by omega)
    have hd1 : d1 x.kids = y1 := yC hy1
    obtain ⟨y0, hy0, hy0m⟩ := ym (l := x.kids) (k := 0) (by omega)
    have hh0 : x.head = y0 := ybj hy0
    have hxs := D.size_kid_lt hxm
    have hy1s := D.size_kid_lt hy1m
    have hfx := yT hf hxm
    refine aLG 4 27 false (by simp [go_sem, hy0] <;> rfl) ?_
    refine yY 27 false false (by simp [go_sem]) rfl (by simp [go_sem]) rfl rfl (by simp [go_sem] <;> rfl) ygK ((ydG y0 (yT hfx hy0m)) _ (by exact hgl)) (by simp [go_sem] <;> rfl) (by simp [go_sem]) rfl rfl ?_
    refine aLG 1 27 false (by simp [go_sem] <;> rfl) ?_
    refine aT 2 ?_
    refine yn 35 (by first | rfl | (simp [go_sem, hx, hm, hb2, hy0, hy1] <;> rfl)) (fun h3 => ?_) (fun h3 => ?_)
    ·refine aK 7 35 false ?_
     refine aT 2 ?_
     refine aK 6 44 false ?_
     refine aT 1 ?_
     refine ye (yc (b := true) (by simp [go_sem]) (fun h => ?_) (fun h => ?_))
     rotate_left
     ·cases h
     refine sS ?_
     refine yd (yf (yi (yf (yf (yi (yf ?_))))))
     have hlb : (List.range d.kids.length).any (gBad d.kids) = true := List.any_eq_true.2 ⟨k, List.mem_range.2 hlt, by rw [hba]; first | (rw [hh0, hd1]; simp only [h1, h2, h3, bA, bB, bC, bD]; done) | (simp only [Bool.not_true, hx, hm, hb2, hy0, hy1, h0, h1, h2, h3, bA, bB, bC, bD, bE, bF, bG, bH, bI, bJ, Bool.false_eq_true, if_true, if_false]; done)⟩
     refine eR ?_
     exact ⟨by rw [hlb]; simp [go_sem], by simp [go_sem]⟩
    ·refine aLG 6 35 false (by simp [go_sem, hy0] <;> rfl) ?_
     refine yY 35 false false (by simp [go_sem]) rfl (by simp [go_sem]) rfl rfl (by simp [go_sem] <;> rfl) ymN ((yg3 ((d.kids.map fun x => x.head.text).take k) (by simp; omega) y0.text) _ (by exact hgl)) (by simp [go_sem] <;> rfl) (by simp [go_sem]) rfl rfl ?_
     refine aT 2 ?_
     refine yn 44 (by first | rfl | (simp [go_sem, hx, hm, hb2, hy0, hy1] <;> rfl)) (fun h4 => ?_) (fun h4 => ?_)
     ·refine aK 6 44 false ?_
      refine aT 1 ?_
      refine ye (yc (b := true) (by simp [go_sem]) (fun h => ?_) (fun h => ?_))
      rotate_left
      ·cases h
      refine sS ?_
      refine yd (yf (yi (yf (yf (yi (yf ?_))))))
      have hlb : (List.range d.kids.length).any (gBad d.kids) = true := List.any_eq_true.2 ⟨k, List.mem_range.2 hlt, by rw [hba]; first | (rw [hh0, hd1]; simp only [h1, h2, h3, h4, bB, bC, bD]; done) | (simp only [Bool.not_true, hx, hm, hb2, hy0, hy1, h0, h1, h2, h3, h4, bA, bB, bC, bD, bE, bF, bG, bH, bI, bJ, Bool.false_eq_true, if_true, if_false]; done)⟩
      refine eR ?_
      exact ⟨by rw [hlb]; simp [go_sem], by simp [go_sem]⟩
     ·refine aLG 4 44 false (by simp [go_sem, hy1] <;> rfl) ?_
      refine yY 44 false false (by simp [go_sem]) rfl (by simp [go_sem]) rfl rfl (by simp [go_sem] <;> rfl) ygp ((yc3 y1 (by omega) (yT hfx hy1m)) _ (by exact hgl)) (by simp [go_sem] <;> rfl) (by simp [go_sem]) rfl rfl ?_
      refine aLG 1 44 false (by simp [go_sem] <;> rfl) ?_
      refine aT 1 ?_
      refine ye (yc (by first | rfl | (simp [go_sem, hx, hm, hb2, hy0, hy1] <;> rfl)) (fun h5 => ?_) (fun h5 => ?_))
      ·refine ya (aS ?_)
       refine yd (yf (yi (yf (yf (yi (yf ?_))))))
       have hlb : (List.range d.kids.length).any (gBad d.kids) = true := List.any_eq_true.2 ⟨k, List.mem_range.2 hlt, by rw [hba]; first | (rw [hh0, hd1]; simp only [h1, h2, h3, h4, h5, bB, bD]; done) | (simp only [Bool.not_true, hx, hm, hb2, hy0, hy1, h0, h1, h2, h3, h4, h5, bA, bB, bC, bD, bE, bF, bG, bH, bI, bJ, Bool.false_eq_true, if_true, if_false]; done)⟩
       refine eR ?_
       exact ⟨by rw [hlb]; simp [go_sem], by simp [go_sem]⟩
      ·refine yg (aR (by simp [go_sem, hm, hb2, hy0] <;> rfl) ?_)
       refine aS ?_
       exact yx (k + 1) σ.objs.length (σ.toks.length + 1) 1 (⟨hlt, hn.succ hr (by rw [hba, hh0, hd1]; simp only [h1, h2, h3, h4, h5, bD])⟩) (by omega) ⟨by simp [go_sem, hnx, hh0], rfl, by simp, by simp, by simp [go_sem, hw, hnx, hh0], fun ob h => .inl (by simpa [go_sem, hx, hm, hb2, hy0, hy1, hw, hnx, hh0] using h), by simp [go_sem]⟩
 ·have hke : k = d.kids.length := by simp at h0; omega
  subst hke
  have hlb : (List.range d.kids.length).any (gBad d.kids) = false := NotYet.any (by simpa using hn)
  have hta : (d.kids.map fun x => x.head.text).take d.kids.length = d.kids.map fun x => x.head.text := List.take_of_length_le (by simp)
  refine yp (yj (yj (yl (sG ?_))))
  refine aT 4 ?_
  refine yn 63 (by first | rfl | (simp [go_sem, hta] <;> rfl)) (fun h6 => ?_) (fun h6 => ?_)
  ·refine aLG 3 63 true (by simp [go_sem] <;> rfl) ?_
   refine aT 2 ?_
   refine yn 68 (by first | rfl | (simp [go_sem, hta] <;> rfl)) (fun h7 => ?_) (fun h7 => ?_)
   ·refine aLG 3 68 true (by simp [go_sem] <;> rfl) ?_
    refine aT 2 ?_
    refine ye (yd (eR ?_))
    exact ⟨by rw [hlb]; simp only [h6, h7, bE, bF, bJ]; simp [go_sem], by simp [go_sem]⟩
   ·refine aK 3 68 true ?_
    refine aT 2 ?_
    refine ye (yd (eR ?_))
    exact ⟨by rw [hlb]; simp only [h6, h7, bF, bG, bH, bJ]; simp [go_sem], by simp [go_sem]⟩
  ·refine aK 3 63 true ?_
   refine aT 2 ?_
   refine aK 3 68 true ?_
   refine aT 2 ?_
   refine ye (yd (eR ?_))
   exact ⟨by rw [hlb]; simp only [h6, bG, bH, bJ]; simp [go_sem], by simp [go_sem]⟩

set_option maxHeartbeats 4000000 in
theorem ybb (d : D) (hd : d.size ≤ 1000000000) (hf : formed d = true) : Pur Tryz.prog (GL kr) 105 [.pv (enc d)] (.pv (.int .i64 (yb d))) := by
 have hkd := yjC hf
 have hwp := you d.text
 refine yB fun σ hgl => ?_
 refine yk tyOk Tryz.func105 rfl (by simp [Tryz.f105]) ?_
 refine sS ?_
 refine ya (yh (sS ?_))
 refine aC (fun h0 => ?_) (fun h0 => ?_)
 ·refine ya (aS ?_)
  refine yd (yi (yf (eR ?_)))
  exact ⟨by simp [go_sem, yb, h0]; done, by simp [go_sem]⟩
 ·refine ya (yS ?_)
  refine aT 4 ?_
  refine yn 14 (by first | rfl | (simp [go_sem] <;> rfl)) (fun h1 => ?_) (fun h1 => ?_)
  ·have hnm := yjo hf (by simpa using h1)
   refine aLG 2 14 true (by simp [go_sem] <;> rfl) ?_
   refine yY 14 true true (by simp [go_sem]) rfl (by simp [go_sem]) rfl rfl (by simp [go_sem] <;> rfl) ymh ((yjb d.text) _ (by exact hgl)) (by simp [go_sem] <;> rfl) (by simp [go_sem]) rfl rfl ?_
   refine aL 2 (by simp [go_sem, hnm] <;> rfl) ?_
   refine ye (yc (by first | rfl | (simp [go_sem, hnm] <;> rfl)) (fun h2 => ?_) (fun h2 => ?_))
   ·refine ya (aS ?_)
    refine yd (yi (yf (eR ?_)))
    exact ⟨by simp [go_sem, yb, hwp, h0, h1, h2]; done, by simp [go_sem]⟩
   ·refine ya (yS ?_)
    refine aT 4 ?_
    refine yn 23 (by first | rfl | (simp [go_sem, hnm] <;> rfl)) (fun h3 => ?_) (fun h3 => ?_)
    ·refine aK 4 23 false ?_
     refine aT 2 ?_
     refine ye (yc (b := true) (by simp [go_sem]) (fun h => ?_) (fun h => ?_))
     rotate_left
     ·cases h
     refine sS ?_
     refine yd (yi (yf (eR ?_)))
     exact ⟨by simp [go_sem, yb, hwp, h0, h1, h2]; done, by simp [go_sem]⟩
    ·exfalso; simp only [beq_iff_eq, bne_eq_false_iff_eq] at *; omega
  ·refine aK 3 14 true ?_
   refine aT 2 ?_
   refine ye (yc (b := false) (by simp [go_sem]) (fun h => ?_) (fun h => ?_))
   ·cases h
   refine sG ?_
   refine aT 4 ?_
   refine yn 23 (by first | rfl | (simp [go_sem] <;> rfl)) (fun h4 => ?_) (fun h4 => ?_)
   ·exfalso; simp only [beq_eq_false_iff_ne, ne_eq, bne_iff_ne] at *; omega
   ·refine aLG 4 23 false (by simp [go_sem] <;> rfl) ?_
    refine aT 2 ?_
    refine ye (aC (fun h5 => ?_) (fun h5 => ?_))
    ·refine ya (aS ?_)
     refine yd (yi (yf (eR ?_)))
     exact ⟨by simp [go_sem, yb, h0, h1, h5]; done, by simp [go_sem]⟩
    ·have hne : d.kids ≠ [] := by intro e; have h := h5; rw [e] at h; revert h; decide
     obtain ⟨x0, r0, hks⟩ := ydx hne
     have hx0 : d.kids[0]? = some x0 := by rw [hks]; rfl
     have hh := yhb hks
     obtain ⟨f, hf0⟩ : ∃ z, z = zz x0.text := ⟨_, rfl⟩
     have hwf := hf0.symm
     have hrg := ybT x0.text
     rw [hwf] at hrg
     refine yg (sS ?_)
     refine sS ?_
     refine ya (sG ?_)
     refine aL 7 (by simp [go_sem, hx0] <;> rfl) ?_
     refine yn 38 (by first | rfl | (simp [go_sem, hx0] <;> rfl)) (fun h6 => ?_) (fun h6 => ?_)
     ·have hk0 := h6
      refine aLG 5 38 true (by simp [go_sem, hx0] <;> rfl) ?_
      refine yY 38 true true (by simp [go_sem]) rfl (by simp [go_sem]) rfl rfl (by simp [go_sem] <;> rfl) yil ((ycM x0.text) _ (by exact hgl)) (by simp [go_sem] <;> rfl) (by simp [go_sem]) rfl rfl ?_
      refine aLG 1 38 true (by simp [go_sem, yr, hwf] <;> rfl) ?_
      refine aT 1 ?_
      refine ye (yc (by first | rfl | (simp [go_sem, hx0, yr, hwf] <;> rfl)) (fun h7 => ?_) (fun h7 => ?_))
      ·have hff : Yz d = f := by unfold Yz; rw [hh, if_pos hk0, hwf]
       refine yS ?_
       refine aL 5 (by simp [go_sem, hx0] <;> rfl) ?_
       refine aG yil ((ycM x0.text) _ (by exact hgl)) ?_
       refine aL 1 (by simp [go_sem, yr, yr, hwf] <;> rfl) ?_
       refine ye (ya (sS ?_))
       refine yh (sS ?_)
       refine yc (by first | rfl | (simp [go_sem, hx0, yr, hwf, yr, hwf] <;> rfl)) (fun h8 => ?_) (fun h8 => ?_)
       ·exfalso; have h := h8; simp at h; omega
       ·refine ya (aS ?_)
        refine yc (by first | rfl | (simp [go_sem, hx0, yr, hwf, yr, hwf] <;> rfl)) (fun h9 => ?_) (fun h9 => ?_)
        ·have ef : f = 3 := by simpa using h9
         subst ef
         refine aS ?_
         refine ya (sS ?_)
         refine yc (by first | rfl | (simp [go_sem, hx0, yr, hwf, yr, hwf] <;> rfl)) (fun h10 => ?_) (fun h10 => ?_)
         ·have hq := h10
          first | rw [Bool.not_eq_true'] at hq | skip
          refine sS ?_
          refine yd (yf (eR ?_))
          exact ⟨by simp [go_sem, yb, fm3, h0, h1, h5, hff, hq]; done, by simp [go_sem]⟩
         ·have hq := h10
          first | rw [Bool.not_eq_false'] at hq | skip
          refine yg (sS ?_)
          refine yd (eR ?_)
          exact ⟨by simp [go_sem, yb, fm3, h0, h1, h5, hff, hq]; done, by simp [go_sem]⟩
        ·refine ya (aS ?_)
         refine yc (by first | rfl | (simp [go_sem, hx0, yr, hwf, yr, hwf] <;> rfl)) (fun h11 => ?_) (fun h11 => ?_)
         ·have ef : f = 4 := by simpa using h11
          subst ef
          refine aS ?_
          refine ya (sS ?_)
          refine yc (by first | rfl | (simp [go_sem, hx0, yr, hwf, yr, hwf] <;> rfl)) (fun h12 => ?_) (fun h12 => ?_)
          ·have hq := h12
           first | rw [Bool.not_eq_true'] at hq | skip
           refine sS ?_
           refine yd (yf (eR ?_))
           exact ⟨by simp [go_sem, yb, fm4, h0, h1, h5, hff, hq]; done, by simp [go_sem]⟩
          ·have hq := h12
           first | rw [Bool.not_eq_false'] at hq | skip
           refine yg (sS ?_)
           refine yd (eR ?_)
           exact ⟨by simp [go_sem, yb, fm4, h0, h1, h5, hff, hq]; done, by simp [go_sem]⟩
         ·refine ya (aS ?_)
          refine yc (by first | rfl | (simp [go_sem, hx0, yr, hwf, yr, hwf] <;> rfl)) (fun h13 => ?_) (fun h13 => ?_)
          ·have ef : f = 5 := by simpa using h13
           subst ef
           refine yS ?_
           refine aT 3 ?_
           refine yn 70 (by first | rfl | (simp [go_sem, hx0, yr, hwf, yr, hwf] <;> rfl)) (fun h14 => ?_) (fun h14 => ?_)
           ·have hlk : d.kids.length = 3 := by have h := h14; simp at h; omega
            obtain ⟨x1, hx1, hx1m⟩ := ym (l := d.kids) (k := 1) (by omega)
            have hd1 : d1 d.kids = x1 := yC hx1
            have hxs := D.size_kid_lt hx1m
            have hfx1 := yT hf hx1m
            refine aLG 4 70 true (by simp [go_sem, hx1] <;> rfl) ?_
            refine yY 70 true true (by simp [go_sem]) rfl (by simp [go_sem]) rfl rfl (by simp [go_sem] <;> rfl) ygp ((yc3 x1 (by omega) hfx1) _ (by exact hgl)) (by simp [go_sem] <;> rfl) (by simp [go_sem]) rfl rfl ?_
            refine aT 2 ?_
            refine ye (ya (sS ?_))
            refine yc (by first | rfl | (simp [go_sem, hx0, yr, hwf, yr, hwf, hx1] <;> rfl)) (fun h15 => ?_) (fun h15 => ?_)
            ·have hq := h15
             first | rw [Bool.not_eq_true'] at hq | skip
             refine sS ?_
             refine yd (yf (eR ?_))
             exact ⟨by simp [go_sem, yb, fm5, h0, h1, h5, hff, h14, hd1, hq]; done, by simp [go_sem]⟩
            ·have hq := h15
             first | rw [Bool.not_eq_false'] at hq | skip
             refine yg (sS ?_)
             refine yd (eR ?_)
             exact ⟨by simp [go_sem, yb, fm5, h0, h1, h5, hff, h14, hd1, hq]; done, by simp [go_sem]⟩
           ·refine aK 5 70 true ?_
            refine aT 2 ?_
            refine ye (ya (sS ?_))
            refine yc (b := true) (by simp [go_sem]) (fun h => ?_) (fun h => ?_)
            rotate_left
            ·cases h
            refine sS ?_
            refine yd (yf (eR ?_))
            exact ⟨by simp [go_sem, yb, fm5, h0, h1, h5, hff, h14]; done, by simp [go_sem]⟩
          ·refine ya (aS ?_)
           refine yc (by first | rfl | (simp [go_sem, hx0, yr, hwf, yr, hwf] <;> rfl)) (fun h16 => ?_) (fun h16 => ?_)
           ·have ef : f = 6 := by simpa using h16
            subst ef
            refine yS ?_
            refine aT 3 ?_
            refine yn 81 (by first | rfl | (simp [go_sem, hx0, yr, hwf, yr, hwf] <;> rfl)) (fun h17 => ?_) (fun h17 => ?_)
            ·have hlk : d.kids.length = 4 := by have h := h17; simp at h; omega
             obtain ⟨x1, hx1, hx1m⟩ := ym (l := d.kids) (k := 1) (by omega)
             have hd1 : d1 d.kids = x1 := yC hx1
             have hxs := D.size_kid_lt hx1m
             have hfx1 := yT hf hx1m
             refine aLG 4 81 true (by simp [go_sem, hx1] <;> rfl) ?_
             refine yY 81 true true (by simp [go_sem]) rfl (by simp [go_sem]) rfl rfl (by simp [go_sem] <;> rfl) ygK ((ydG x1 hfx1) _ (by exact hgl)) (by simp [go_sem] <;> rfl) (by simp [go_sem]) rfl rfl ?_
             refine aT 2 ?_
             refine ye (ya (sS ?_))
             refine yc (by first | rfl | (simp [go_sem, hx0, yr, hwf, yr, hwf, hx1] <;> rfl)) (fun h18 => ?_) (fun h18 => ?_)
             ·have hq := h18
              first | rw [Bool.not_eq_true'] at hq | skip
              refine sS ?_
              refine yd (yf (eR ?_))
              exact ⟨by simp [go_sem, yb, fm6, h0, h1, h5, hff, h17, hd1, hq]; done, by simp [go_sem]⟩
             ·have hq := h18
              first | rw [Bool.not_eq_false'] at hq | skip
              refine yg (sS ?_)
              refine yd (eR ?_)
              exact ⟨by simp [go_sem, yb, fm6, h0, h1, h5, hff, h17, hd1, hq]; done, by simp [go_sem]⟩
            ·refine aK 5 81 true ?_
             refine aT 2 ?_
             refine ye (ya (sS ?_))
             refine yc (b := true) (by simp [go_sem]) (fun h => ?_) (fun h => ?_)
             rotate_left
             ·cases h
             refine sS ?_
             refine yd (yf (eR ?_))
             exact ⟨by simp [go_sem, yb, fm6, h0, h1, h5, hff, h17]; done, by simp [go_sem]⟩
           ·refine ya (aS ?_)
            refine yc (by first | rfl | (simp [go_sem, hx0, yr, hwf, yr, hwf] <;> rfl)) (fun h19 => ?_) (fun h19 => ?_)
            ·have ef : f = 7 := by simpa using h19
             subst ef
             refine yS ?_
             refine aT 3 ?_
             refine yn 92 (by first | rfl | (simp [go_sem, hx0, yr, hwf, yr, hwf] <;> rfl)) (fun h20 => ?_) (fun h20 => ?_)
             ·have hlk : d.kids.length = 3 := by have h := h20; simp at h; omega
              obtain ⟨x1, hx1, hx1m⟩ := ym (l := d.kids) (k := 1) (by omega)
              have hd1 : d1 d.kids = x1 := yC hx1
              have hxs := D.size_kid_lt hx1m
              have hfx1 := yT hf hx1m
              refine aLG 4 92 true (by simp [go_sem, hx1] <;> rfl) ?_
              refine yY 92 true true (by simp [go_sem]) rfl (by simp [go_sem]) rfl rfl (by simp [go_sem] <;> rfl) ypD ((yoq x1 (by omega) hfx1) _ (by exact hgl)) (by simp [go_sem] <;> rfl) (by simp [go_sem]) rfl rfl ?_
              refine aT 2 ?_
              refine ye (ya (sS ?_))
              refine yc (by first | rfl | (simp [go_sem, hx0, yr, hwf, yr, hwf, hx1] <;> rfl)) (fun h21 => ?_) (fun h21 => ?_)
              ·have hq := h21
               first | rw [Bool.not_eq_true'] at hq | skip
               refine sS ?_
               refine yd (yf (eR ?_))
               exact ⟨by simp [go_sem, yb, fm7, h0, h1, h5, hff, h20, hd1, hq]; done, by simp [go_sem]⟩
              ·have hq := h21
               first | rw [Bool.not_eq_false'] at hq | skip
               refine yg (sS ?_)
               refine yd (eR ?_)
               exact ⟨by simp [go_sem, yb, fm7, h0, h1, h5, hff, h20, hd1, hq]; done, by simp [go_sem]⟩
             ·refine aK 5 92 true ?_
              refine aT 2 ?_
              refine ye (ya (sS ?_))
              refine yc (b := true) (by simp [go_sem]) (fun h => ?_) (fun h => ?_)
              rotate_left
              ·cases h
              refine sS ?_
              refine yd (yf (eR ?_))
              exact ⟨by simp [go_sem, yb, fm7, h0, h1, h5, hff, h20]; done, by simp [go_sem]⟩
            ·refine ya (aS ?_)
             refine yc (by first | rfl | (simp [go_sem, hx0, yr, hwf, yr, hwf] <;> rfl)) (fun h22 => ?_) (fun h22 => ?_)
             ·have ef : f = 8 := by simpa using h22
              subst ef
              refine aS ?_
              refine ya (sS ?_)
              refine yc (by first | rfl | (simp [go_sem, hx0, yr, hwf, yr, hwf] <;> rfl)) (fun h23 => ?_) (fun h23 => ?_)
              ·have hq := h23
               first | rw [Bool.not_eq_true'] at hq | skip
               refine sS ?_
               refine yd (yf (eR ?_))
               exact ⟨by simp [go_sem, yb, fm8, h0, h1, h5, hff, hq]; done, by simp [go_sem]⟩
              ·have hq := h23
               first | rw [Bool.not_eq_false'] at hq | skip
               refine yg (sS ?_)
               refine yd (eR ?_)
               exact ⟨by simp [go_sem, yb, fm8, h0, h1, h5, hff, hq]; done, by simp [go_sem]⟩
             ·refine ya (aS ?_)
              refine yc (by first | rfl | (simp [go_sem, hx0, yr, hwf, yr, hwf] <;> rfl)) (fun h24 => ?_) (fun h24 => ?_)
              ·have ef : f = 9 := by simpa using h24
               subst ef
               refine yS ?_
               refine aT 3 ?_
               refine yn 107 (by first | rfl | (simp [go_sem, hx0, yr, hwf, yr, hwf] <;> rfl)) (fun h25 => ?_) (fun h25 => ?_)
               ·have hlk : d.kids.length = 3 := by have h := h25; simp at h; omega
                obtain ⟨x1, hx1, hx1m⟩ := ym (l := d.kids) (k := 1) (by omega)
                have hd1 : d1 d.kids = x1 := yC hx1
                have hxs := D.size_kid_lt hx1m
                have hfx1 := yT hf hx1m
                refine aLG 4 107 true (by simp [go_sem, hx1] <;> rfl) ?_
                refine yY 107 true true (by simp [go_sem]) rfl (by simp [go_sem]) rfl rfl (by simp [go_sem] <;> rfl) ygp ((yc3 x1 (by omega) hfx1) _ (by exact hgl)) (by simp [go_sem] <;> rfl) (by simp [go_sem]) rfl rfl ?_
                refine aT 2 ?_
                refine yn 114 (by first | rfl | (simp [go_sem, hx0, yr, hwf, yr, hwf, hx1] <;> rfl)) (fun h26 => ?_) (fun h26 => ?_)
                ·refine aLG 7 114 true (by simp [go_sem, hx1] <;> rfl) ?_
                 refine aT 2 ?_
                 refine ye (ya (sS ?_))
                 refine yc (by first | rfl | (simp [go_sem, hx0, yr, hwf, yr, hwf, hx1] <;> rfl)) (fun h27 => ?_) (fun h27 => ?_)
                 ·have hq := h27
                  first | rw [Bool.not_eq_true'] at hq | skip
                  refine sS ?_
                  refine yd (yf (eR ?_))
                  exact ⟨by simp [go_sem, yb, fm9, h0, h1, h5, hff, h25, hd1, h26, hq]; done, by simp [go_sem]⟩
                 ·have hq := h27
                  first | rw [Bool.not_eq_false'] at hq | skip
                  refine yg (sS ?_)
                  refine yd (eR ?_)
                  exact ⟨by simp [go_sem, yb, fm9, h0, h1, h5, hff, h25, hd1, h26, hq]; done, by simp [go_sem]⟩
                ·refine aK 7 114 true ?_
                 refine aT 2 ?_
                 refine ye (ya (sS ?_))
                 refine yc (b := true) (by simp [go_sem]) (fun h => ?_) (fun h => ?_)
                 rotate_left
                 ·cases h
                 refine sS ?_
                 refine yd (yf (eR ?_))
                 exact ⟨by simp [go_sem, yb, fm9, h0, h1, h5, hff, h25, hd1, h26]; done, by simp [go_sem]⟩
               ·refine aK 5 107 true ?_
                refine aT 2 ?_
                refine aK 7 114 true ?_
                refine aT 2 ?_
                refine ye (ya (sS ?_))
                refine yc (b := true) (by simp [go_sem]) (fun h => ?_) (fun h => ?_)
                rotate_left
                ·cases h
                refine sS ?_
                refine yd (yf (eR ?_))
                exact ⟨by simp [go_sem, yb, fm9, h0, h1, h5, hff, h25]; done, by simp [go_sem]⟩
              ·exfalso; simp only [beq_eq_false_iff_ne, ne_eq, decide_eq_true_eq] at *; omega
      ·have hf00 : f = 0 := by have h := h7; simp at h; omega
       have hff : Yz d = 0 := by unfold Yz; rw [hh, if_pos hk0, hwf, hf00]
       refine yg (ya (sS ?_))
       refine yh (sS ?_)
       refine yc (by first | rfl | (simp [go_sem, hx0, yr, hwf] <;> rfl)) (fun h28 => ?_) (fun h28 => ?_)
       ·refine aS ?_
        refine ya (sS ?_)
        refine yc (by first | rfl | (simp [go_sem, hx0, yr, hwf] <;> rfl)) (fun h29 => ?_) (fun h29 => ?_)
        ·have hq := h29
         first | rw [Bool.not_eq_true'] at hq | skip
         refine sS ?_
         refine yd (yf (eR ?_))
         exact ⟨by simp [go_sem, yb, h0, h1, h5, hff, hq]; done, by simp [go_sem]⟩
        ·have hq := h29
         first | rw [Bool.not_eq_false'] at hq | skip
         refine yg (sS ?_)
         refine yd (eR ?_)
         exact ⟨by simp [go_sem, yb, h0, h1, h5, hff, hq]; done, by simp [go_sem]⟩
       ·first | (cases h28; done) | (simp at h28; done)
     ·have hff : Yz d = 0 := by unfold Yz; rw [hh, if_neg (by rw [h6]; decide)]
      refine aK 7 38 true ?_
      refine aT 1 ?_
      refine ye (yc (b := false) (by simp [go_sem]) (fun h => ?_) (fun h => ?_))
      ·cases h
      refine yg (ya (sS ?_))
      refine yh (sS ?_)
      refine yc (by first | rfl | (simp [go_sem, hx0] <;> rfl)) (fun h30 => ?_) (fun h30 => ?_)
      ·refine aS ?_
       refine ya (sS ?_)
       refine yc (by first | rfl | (simp [go_sem, hx0] <;> rfl)) (fun h31 => ?_) (fun h31 => ?_)
       ·have hq := h31
        first | rw [Bool.not_eq_true'] at hq | skip
        refine sS ?_
        refine yd (yf (eR ?_))
        exact ⟨by simp [go_sem, yb, h0, h1, h5, hff, hq]; done, by simp [go_sem]⟩
       ·have hq := h31
        first | rw [Bool.not_eq_false'] at hq | skip
        refine yg (sS ?_)
        refine yd (eR ?_)
        exact ⟨by simp [go_sem, yb, h0, h1, h5, hff, hq]; done, by simp [go_sem]⟩
      ·first | (cases h30; done) | (simp at h30; done)

end Go.Proofs.YtigideidmcmfbaaGreatDoor

namespace Go.Proofs.YtigideidmcmfbaaGreatDoor
open Go Go.Aw
variable {kr : KR}
def pthP (p : List Int) : PV := .slice (ipv p)
@[go_sem] theorem yk7 (p : List Int) : (pthP p).cells = [pthP p] := rfl
@[go_sem] theorem ys0 (p : List Int) : (pthP p).nrm = pthP p := rfl
@[go_sem] theorem ysO (l : List (List Int)) : y4 1 (l.map pthP) = true := by simp [y4, yk7]
set_option maxHeartbeats 1000000 in
theorem ybq (d : D) (hd : d.size ≤ 100000000) (hf : formed d = true) : Pur Tryz.prog (GL kr) 68 [.pv (enc d)] (.pv (.slice ((prts d).map pthP))) := by
 have hkl := D.kids_length_lt d
 have hsl := yZ d
 have ht0 : ((prts d).map pthP).take 0 = [] := rfl
 have hnxt := fun (k : Nat) (p : List Int) (h : (prts d)[k]? = some p) => yI (l := (prts d).map pthP) (k := k) (x := pthP p) (by rw [List.getElem?_map, h]; rfl)
 refine yB fun σ hgl => ?_
 refine yk tyOk Tryz.func68 rfl (by simp [Tryz.f68]) ?_
 refine sS ?_
 refine sS ?_
 refine ya (sG ?_)
 refine aT 1 ?_
 refine aG yb3 ((ybb d (by omega) hf) _ (by exact hgl)) ?_
 refine ye (yh (sS ?_))
 refine aC (fun h0 => ?_) (fun h0 => ?_)
 ·refine ya (aS ?_)
  refine yd (yi (yf (eR ?_)))
  have hk : yb d = 4 := by simpa using h0
  exact ⟨by rw [yo7 hk (yqK hk)]; simp [go_sem, pthP, ipv], by simp [go_sem]⟩
 ·refine ya (sS ?_)
  refine aC (fun h1 => ?_) (fun h1 => ?_)
  ·refine yg (yc (b := true) (by simp [go_sem, h1]) (fun h => ?_) (fun h => ?_))
   rotate_left
   ·cases h
   refine sS ?_
   refine yd (yi (yf (eR ?_)))
   have hk : yb d = 5 := by simpa using h1
   exact ⟨by rw [ykz (.inl hk)]; simp [go_sem, pthP, ipv], by simp [go_sem]⟩
  ·refine aS ?_
   refine aC (fun h2 => ?_) (fun h2 => ?_)
   ·refine ya (aS ?_)
    refine yd (yi (yf (eR ?_)))
    have hk : yb d = 9 := by simpa using h2
    exact ⟨by rw [ykz (.inr hk)]; simp [go_sem, pthP, ipv], by simp [go_sem]⟩
   ·refine ya (aS ?_)
    refine aC (fun h3 => ?_) (fun h3 => ?_)
    ·refine ya (aS ?_)
     refine yd (yi (yf (eR ?_)))
     have hk : yb d = 6 := by simpa using h3
     exact ⟨by rw [yoV hk]; simp [go_sem, pthP, ipv], by simp [go_sem]⟩
    ·refine ya (aS ?_)
     refine aC (fun h4 => ?_) (fun h4 => ?_)
     ·refine ya (aS ?_)
      refine yd (yi (yf (eR ?_)))
      have hk : yb d = 8 := by simpa using h4
      exact ⟨by rw [yoM hk (yqs hk)]; simp [go_sem, pthP, ipv], by simp [go_sem]⟩
     ·refine ya (aS ?_)
      refine aC (fun h5 => ?_) (fun h5 => ?_)
      ·have hk : yb d = 7 := by simpa using h5
       have hlen := hsl.1 (by omega)
       obtain ⟨x1, hx1, hx1m⟩ := ym (l := d.kids) (k := 1) (by omega)
       have hd1 : d1 d.kids = x1 := yC hx1
       have hxs := D.size_kid_lt hx1m
       have hxl := D.kids_length_lt x1
       have hfx1 := yT hf hx1m
       have hlst := ylF hk
       have hget := fun (k : Nat) => yoc (d := d) (k := k) hk
       rw [hd1] at hlst hget
       refine ya (sS ?_)
       refine zF 3 44 1 (by simp [go_sem] <;> rfl) ?_
       refine yh (yq σ.objs.length (σ.toks.length + 1) 1 [1, 2, 7] (fun k : Nat => [(3, .acc (((prts d).map pthP).take k) σ.toks.length), (4, .pv (.int .i64 ↑k))]) (fun k => { σ with toks := σ.toks ++ [⟨k, 44, 1⟩] }) (fun k => k ≤ x1.kids.length) (fun k => x1.kids.length - k) 0 (Nat.zero_le _) ⟨by simp [go_sem, ht0], rfl, by simp, by simp, by simp [go_sem, ht0], fun ob h => .inl (by simpa [go_sem, hx1, ht0] using h), by simp [go_sem]⟩ ?_)
       intro k hk
       refine ya (sA (by simp [go_sem, hx1] <;> rfl) ?_)
       refine yc (by first | rfl | (simp [go_sem, hx1] <;> rfl)) (fun h6 => ?_) (fun h6 => ?_)
       ·have hlt : k < x1.kids.length := by simp at h6; omega
        have hw : IntKind.i64.wrap (↑k + 1) = (k : Int) + 1 := yv (by omega)
        obtain ⟨x, hx, hxm⟩ := ym hlt
        have hm : min k (prts d).length = k := by omega
        have hb2 : (k + 1) * 24 ≤ 140737488355328 := by omega
        have hnx : ((prts d).map pthP).take (k + 1) = ((prts d).map pthP).take k ++ [.slice [.int .i64 1, .int .i64 (k : Int), .int .i64 2]] := hnxt k _ (hget k hlt)
        refine yg (ya (yh (aR (by simp [go_sem, hm, hb2] <;> rfl) ?_)))
        refine aS ?_
        exact yx (k + 1) σ.objs.length (σ.toks.length + 1) 1 (hlt) (by omega) ⟨by simp [go_sem, hnx], rfl, by simp, by simp, by simp [go_sem, hw, hnx], fun ob h => .inl (by simpa [go_sem, hx1, hx, hm, hb2, hw, hnx] using h), by simp [go_sem]⟩
       ·have hke : k = x1.kids.length := by simp at h6; omega
        subst hke
        have hm : min x1.kids.length (prts d).length = x1.kids.length := by omega
        have hb2 : (x1.kids.length + 1) * 24 ≤ 140737488355328 := by omega
        have hfin : ((prts d).map pthP).take x1.kids.length ++ [.slice [.int .i64 2]] = (prts d).map pthP := by have h := hnxt _ _ hlst.1; rw [List.take_of_length_le (by rw [List.length_map]; omega)] at h; exact h.symm
        refine yp (yj (yj (yl (sA (by simp [go_sem, hm, hb2, hfin] <;> rfl) ?_))))
        refine yd (yi (yf (eR ?_)))
        exact ⟨by simp [go_sem], by simp [go_sem]⟩
      ·refine ya (aS ?_)
       refine aC (fun h7 => ?_) (fun h7 => ?_)
       ·have hk : yb d = 10 := by simpa using h7
        have hpl := ymw hk
        have hget := fun (k : Nat) => yoH (d := d) (k := k) hk
        refine sS ?_
        refine zF 3 44 1 (by simp [go_sem] <;> rfl) ?_
        refine yh (yq σ.objs.length (σ.toks.length + 1) 1 [1, 2] (fun k : Nat => [(3, .acc (((prts d).map pthP).take k) σ.toks.length), (5, .pv (.int .i64 ↑k))]) (fun k => { σ with toks := σ.toks ++ [⟨k, 44, 1⟩] }) (fun k => k ≤ d.kids.length) (fun k => d.kids.length - k) 0 (Nat.zero_le _) ⟨by simp [go_sem, ht0], rfl, by simp, by simp, by simp [go_sem, ht0], fun ob h => .inl (by simpa [go_sem, ht0] using h), by simp [go_sem]⟩ ?_)
        intro k hk
        refine ya (sS ?_)
        refine aC (fun h8 => ?_) (fun h8 => ?_)
        ·have hlt : k < d.kids.length := by simp at h8; omega
         have hw : IntKind.i64.wrap (↑k + 1) = (k : Int) + 1 := yv (by omega)
         obtain ⟨x, hx, hxm⟩ := ym hlt
         have hm : min k (prts d).length = k := by omega
         have hb2 : (k + 1) * 24 ≤ 140737488355328 := by omega
         have hnx : ((prts d).map pthP).take (k + 1) = ((prts d).map pthP).take k ++ [.slice [.int .i64 (k : Int)]] := hnxt k _ (hget k hlt)
         refine yg (ya (yh (aR (by simp [go_sem, hm, hb2] <;> rfl) ?_)))
         refine aS ?_
         exact yx (k + 1) σ.objs.length (σ.toks.length + 1) 1 (hlt) (by omega) ⟨by simp [go_sem, hnx], rfl, by simp, by simp, by simp [go_sem, hw, hnx], fun ob h => .inl (by simpa [go_sem, hx, hm, hb2, hw, hnx] using h), by simp [go_sem]⟩
        ·have hke : k = d.kids.length := by simp at h8; omega
         subst hke
         have hfin : ((prts d).map pthP).take d.kids.length = (prts d).map pthP := List.take_of_length_le (by rw [List.length_map]; omega)
         refine yp (yj (yj (yl (sA (by simp [go_sem, hfin] <;> rfl) ?_))))
         refine yd (eR ?_)
         exact ⟨by simp [go_sem], by simp [go_sem]⟩
       ·have hpn : prts d = [] := ylE (by simp only [beq_eq_false_iff_ne, ne_eq] at *; omega)
        refine yg (sS ?_)
        refine yd (eR ?_)
        exact ⟨by rw [hpn]; simp [go_sem], by simp [go_sem]⟩

set_option maxHeartbeats 1000000 in
theorem yrk (d x : D) (hd : d.size ≤ 100000000) (p : List Int) (hx : d.sub p = some x) : Pur Tryz.prog (GL kr) 31 [.pv (enc d), .pv (.slice (ipv p))] (.tuple [.pv (enc x), .pv (.bool true)]) := by
 have hsz := ye6 hx
 have h0 : d.sub (p.take 0) = some d := rfl
 have hxp := D.size_pos x
 refine yB fun σ hgl => ?_
 refine yk tyOk Tryz.func31 rfl (by simp [Tryz.f31]) ?_
 refine sS ?_
 refine ya (sS ?_)
 refine yh (ybH σ.objs.length σ.toks.length 2 [1, 2, 4, 5] (fun i : D × Nat => [(6, .pv (.int .i64 ↑i.2))]) (fun i : D × Nat => [[.pv (.int .i64 i.1.kind), .pv (.int .i64 i.1.num), .pv (.str i.1.text), .pv (.slice (i.1.kids.map enc))], [.pv (.int .i64 0), .pv (.int .i64 0), .pv (.str ⟨#[]⟩), .pv .nils]]) (fun i => σ) (fun i => i.2 ≤ p.length ∧ d.sub (p.take i.2) = some i.1) (fun i => p.length - i.2) (d, 0) (⟨Nat.zero_le _, h0⟩) ⟨by simp [go_sem], by simp [go_sem], by simp, by simp, by simp [go_sem], fun ob h => .inl (by simpa [go_sem, yA] using h), by simp [go_sem]⟩ ?_)
 rintro i ⟨hik, hic⟩
 refine ya (sA (by simp [go_sem, yA] <;> rfl) ?_)
 refine yc (by first | rfl | (simp [go_sem, yA] <;> rfl)) (fun h1 => ?_) (fun h1 => ?_)
 ·have hlt : i.2 < p.length := by have h := h1; simp at h; omega
  obtain ⟨j, y, hj, hj0, hjl, hy, hyn⟩ := yob hx hlt hic
  have hyl := (List.getElem?_eq_some_iff.1 hy).1
  have hyg : i.1.kids[j.toNat] = y := (List.getElem?_eq_some_iff.1 hy).2
  have hpj : (ipv p)[i.2]? = some (.int .i64 j) := by unfold ipv; rw [List.getElem?_map, hj]; rfl
  have hw : IntKind.i64.wrap ((i.2 : Int) + 1) = (i.2 : Int) + 1 := yv (by omega)
  have hd0 : decide (j < 0) = false := decide_eq_false (by omega)
  have hd2 : decide ((i.1.kids.length : Int) ≤ j) = false := decide_eq_false (by omega)
  refine yg (ya (yh (ya (ya (yG tyOk tySz 13 (by kernel_rfl) (by decide) ?_)))))
  refine yo 6 (by simp [go_sem, hpj, hd0] <;> rfl) ?_
  refine Zj 18 (by first | rfl | (simp [go_sem, yA, hpj, hd0, hd2, hj0, hjl, hy, hyg] <;> rfl)) (fun h2 => ?_) (fun h2 => ?_)
  ·first | (cases h2; done) | (simp at h2; done)
  ·refine yap 7 18 false false (by simp [go_sem]) rfl (by simp [go_sem]) rfl rfl (by simp [go_sem, hpj] <;> rfl) ?_
   refine yF ?_
   refine aLG 1 18 false (by simp [go_sem, hd2] <;> rfl) ?_
   refine aT 1 ?_
   refine ye (yc (by first | rfl | (simp [go_sem, yA, hpj, hd0, hd2, hj0, hjl, hy, hyg] <;> rfl)) (fun h3 => ?_) (fun h3 => ?_))
   ·first | (cases h3; done) | (simp at h3; done)
   ·refine yg (yG tyOk tySz 6 (by kernel_rfl) (by decide) ?_)
    refine yo 6 (by simp [go_sem, hpj] <;> rfl) ?_
    refine yF ?_
    refine aL 3 (by simp [go_sem, hj0, hjl, hyg] <;> rfl) ?_
    refine ye (aS ?_)
    exact yx ((y, i.2 + 1)) σ.objs.length σ.toks.length 2 (⟨hlt, hyn⟩) (by show _ - _ < _ - _; omega) ⟨by simp [go_sem], by simp [go_sem], by simp, by simp, by simp [go_sem, hw], fun ob h => .inl (by simpa [go_sem, yA, hpj, hd0, hd2, hj0, hjl, hy, hyg, hw] using h), by simp [go_sem]⟩
 ·have hke : i.2 = p.length := by have h := h1; simp at h; omega
  have hex : i.1 = x := by rw [hke, List.take_length, hx] at hic; exact (Option.some.inj hic).symm
  refine yp (yj (yj (yl (sS ?_))))
  refine yd (eR ?_)
  exact ⟨by rw [← hex]; simp [go_sem], by simp [go_sem]⟩

set_option maxHeartbeats 1000000 in
theorem yiP (d : D) (hd : d.size ≤ 100000000) (hf : formed d = true) : Pur Tryz.prog (GL kr) 69 [.pv (enc d)] (.pv (.slice ((subs d).map fun q => enc q.2))) := by
 have hkl := D.kids_length_lt d
 have hsl := yeg d
 have hpl := yag d
 have ht0 : ((subs d).map fun q => enc q.2).take 0 = [] := rfl
 refine yB fun σ hgl => ?_
 refine yk tyOk Tryz.func69 rfl (by simp [Tryz.f69]) ?_
 refine sS ?_
 refine sS ?_
 refine sG ?_
 refine aT 1 ?_
 refine aG yfI ((ybq d hd hf) _ (by exact hgl)) ?_
 refine aT 1 ?_
 refine ye (ya (sS ?_))
 refine zF 3 24 4 (by simp [go_sem] <;> rfl) ?_
 refine yh (yq σ.objs.length (σ.toks.length + 1) 1 [1, 2, 4] (fun k : Nat => [(3, .acc (((subs d).map fun q => enc q.2).take k) σ.toks.length), (5, .pv (.int .i64 ↑k))]) (fun k => { σ with toks := σ.toks ++ [⟨k, 24, 4⟩] }) (fun k => k ≤ (prts d).length) (fun k => (prts d).length - k) 0 (Nat.zero_le _) ⟨by simp [go_sem, ht0], rfl, by simp, by simp, by simp [go_sem, ht0], fun ob h => .inl (by simpa [go_sem, ht0] using h), by simp [go_sem]⟩ ?_)
 intro k hk
 refine ya (sS ?_)
 refine aC (fun h0 => ?_) (fun h0 => ?_)
 ·have hlt : k < (prts d).length := by simp at h0; omega
  have hw : IntKind.i64.wrap (↑k + 1) = (k : Int) + 1 := yv (by omega)
  obtain ⟨y, hy, hym⟩ := ym hlt
  obtain ⟨q, hq, hqm⟩ := ym (l := subs d) (k := k) (by omega)
  have hyq : y = q.1.p := by have := yaf hq; rw [hy] at this; exact Option.some.inj this
  subst hyq
  have hnx : ((subs d).map fun q => enc q.2).take (k + 1) = ((subs d).map fun q => enc q.2).take k ++ [enc q.2] := yI (by rw [List.getElem?_map, hq]; rfl)
  have hm : min k (subs d).length = k := by omega
  have hb2 : (k + 1) * 56 ≤ 140737488355328 := by omega
  refine yg (ya (yh (ya (Yq tyOk tySz 11 (by kernel_rfl) (by decide) ?_))))
  refine yo 5 (by simp [go_sem, hy] <;> rfl) ?_
  refine yQ (by first | (intro _ _ hh; exact hh) | simp [go_sem]) rfl rfl rfl rfl (by simp [go_sem] <;> rfl) yrB ((yrk d q.2 hd q.1.p (D.sub_subs hqm)) _ (by exact hgl)) (by simp [go_sem] <;> rfl) (by simp [go_sem, pthP]) rfl rfl ?_
  refine yo 5 (by simp [go_sem] <;> rfl) ?_
  refine yF ?_
  refine aT 1 ?_
  refine ye (aR (by simp [go_sem, hm, hb2] <;> rfl) ?_)
  refine aS ?_
  exact yx (k + 1) σ.objs.length (σ.toks.length + 1) 1 (hlt) (by omega) ⟨by simp [go_sem, hnx], rfl, by simp, by simp, by simp [go_sem, hw, hnx], fun ob h => .inl (by simpa [go_sem, hy, hm, hb2, hw, hnx] using h), by simp [go_sem]⟩
 ·have hke : k = (prts d).length := by simp at h0; omega
  subst hke
  have hfin : ((subs d).map fun q => enc q.2).take (prts d).length = (subs d).map fun q => enc q.2 := List.take_of_length_le (by simp; omega)
  refine yp (yj (yj (yl (sA (by simp [go_sem, hfin] <;> rfl) ?_))))
  refine yd (eR ?_)
  exact ⟨by simp [go_sem], by simp [go_sem]⟩

set_option maxHeartbeats 1000000 in
theorem ynN (p q : List Int) (hp : p.length ≤ 400000000) (hq : q.length ≤ 400000000) : Pur Tryz.prog (GL kr) 70 [.pv (.slice (ipv p)), .pv (.slice (ipv q))] (.pv (.slice (ipv (p ++ q)))) := by
 have hb1 : p.length * 8 ≤ 140737488355328 := by omega
 have hb2 : (p.length + q.length) * 8 ≤ 140737488355328 := by omega
 have hap := ycw p q
 refine yB fun σ hgl => ?_
 refine yk tyOk Tryz.func70 rfl (by simp [Tryz.f70]) ?_
 refine sS ?_
 refine sA (by simp [go_sem, yA, hb1, hb2] <;> rfl) ?_
 refine yd (eR ?_)
 exact ⟨by simp [go_sem, hap], by simp [go_sem]⟩

end Go.Proofs.YtigideidmcmfbaaGreatDoor

namespace Go.Proofs.YtigideidmcmfbaaGreatDoor
open Go Go.Aw
variable {kr : KR}
theorem ynh (p q : List Int) (hp : p.length ≤ 400000000) (hq : q.length ≤ 400000000) : Pur Tryz.prog (GL kr) 70 [.pv (.slice (ipv p)), .pv (wPV q)] (.pv (.slice (ipv (p ++ q)))) := by
  have h := ynN (kr := kr) p q hp hq
  by_cases e : q = []
  · subst e
    exact fun σ hgl => ACalls.args (h σ hgl) (by simp [go_sem, wPV, ipv])
  · have e2 : wPV q = .slice (ipv q) := by unfold wPV; rw [if_neg e]; rfl
    rw [e2]; exact h

set_option maxHeartbeats 1000000 in
theorem yqz (d : D) : ∀ (hd : d.size ≤ 100000000) (hf : formed d = true), Pur Tryz.prog (GL kr) 92 [.pv (enc d)] (.tuple [.pv (wpath d), .pv (.bool (!Zs d))]) := by
 induction d using D.indS with
 | _ d ih =>
 intro hd hf
 refine yB fun σ hgl => ?_
 have hpl := yag d
 have hsle := yeg d
 refine yk tyOk Tryz.func92 rfl (by simp [Tryz.f92]) ?_
 refine sS ?_
 refine ya (sG ?_)
 refine aT 1 ?_
 refine aG yb3 ((ybb d (by omega) hf) _ (by exact hgl)) ?_
 refine aT 1 ?_
 refine ye (yc (by first | rfl | (simp [go_sem, Yo] <;> rfl)) (fun h0 => ?_) (fun h0 => ?_))
 ·refine ya (aS ?_)
  refine yd (yf ?_)
  have hz : yb d = 0 := by simpa using h0
  have hws := ZK (d := d) (p := []) (by rw [yb8, if_pos (by simpa using hz)])
  refine eR ?_
  exact ⟨by rw [hws.1, hws.2]; simp [go_sem, wPV], by simp [go_sem]⟩
 ·have hk0 : yb d ≠ 0 := by simpa using h0
  refine yg (ya (Yq tyOk tySz 3 (by kernel_rfl) (by decide) ?_))
  refine yo 1 (by simp [go_sem] <;> rfl) ?_
  refine yQ (by first | (intro _ _ hh; exact hh) | simp [go_sem]) rfl rfl rfl rfl (by simp [go_sem] <;> rfl) yfI ((ybq d hd hf) _ (by exact hgl)) (by simp [go_sem] <;> rfl) (by simp [go_sem]) rfl rfl ?_
  refine yo 1 (by simp [go_sem] <;> rfl) ?_
  refine yF ?_
  refine aG ynn ((yiP d hd hf) _ (by exact hgl)) ?_
  refine aT 2 ?_
  refine ye (ya (sS ?_))
  refine yh (yq σ.objs.length σ.toks.length 1 [2, 3, 4, 5] (fun k : Nat => [(6, .pv (.int .i64 ↑k))]) (fun k => σ) (fun k => k ≤ (prts d).length ∧ NoWr d k) (fun k => (prts d).length - k) 0 (⟨Nat.zero_le _, .zero⟩) ⟨by simp [go_sem], rfl, by simp, by simp, by simp [go_sem], fun ob h => .inl (by simpa [go_sem, Yo] using h), by simp [go_sem]⟩ ?_)
  rintro k ⟨hk, hn⟩
  refine ya (sS ?_)
  refine yc (by first | rfl | (simp [go_sem, Yo] <;> rfl)) (fun h1 => ?_) (fun h1 => ?_)
  ·have hlt : k < (prts d).length := by simp at h1; omega
   have hw : IntKind.i64.wrap (↑k + 1) = (k : Int) + 1 := yv (by omega)
   obtain ⟨y, hy, hym⟩ := ym hlt
   obtain ⟨q, hq, hqm⟩ := ym (l := subs d) (k := k) (by omega)
   have hyq : y = q.1.p := by have := yaf hq; rw [hy] at this; exact Option.some.inj this
   subst hyq
   refine yg (ya (yh (sG ?_)))
   refine aL 4 (by simp [go_sem, hq] <;> rfl) ?_
   refine aG yl3 ((ih q hqm (by have := Ys hqm; omega) (yeE hf hqm)) _ (by exact hgl)) ?_
   refine aT 5 ?_
   refine ye (sS ?_)
   refine yc (by first | rfl | (simp [go_sem, Yo, hy, hq] <;> rfl)) (fun h2 => ?_) (fun h2 => ?_)
   ·have hno : Zs q.2 = false := by simpa using h2
    obtain ⟨p2, hp2⟩ := ylD hno
    have hwp : wpath q.2 = wPV p2 := (ZK hp2).1
    have hws := ZK (hn.found hk0 hq hp2)
    refine sG ?_
    refine aL 5 (by simp [go_sem, hy, hwp] <;> rfl) ?_
    refine aF yrs ((ynh q.1.p p2 (by have := Yc hqm; omega) (by have := yko q.2 p2 hp2; have := Ys hqm; omega)) _ (by exact hgl)) (by simp [go_sem] <;> rfl) (by simp [go_sem, pthP]) ?_
    refine aT 2 ?_
    refine ye (yd (yi (yf (yf (yi (yf (eR ?_)))))))
    exact ⟨by rw [hws.1, hws.2, ynG (Yc hqm).1]; simp [go_sem, ipv], by simp [go_sem]⟩
   ·have hok : Zs q.2 = true := by simpa using h2
    have hsn := ylB hok
    refine yg (aS ?_)
    exact yx (k + 1) σ.objs.length σ.toks.length 1 (⟨hlt, hn.succ hq hsn⟩) (by omega) ⟨by simp [go_sem], rfl, by simp, by simp, by simp [go_sem, hw], fun ob h => .inl (by simpa [go_sem, Yo, hy, hq, hw] using h), by simp [go_sem]⟩
  ·have hke : k = (prts d).length := by simp at h1; omega
   subst hke
   rw [hpl] at hn
   have hws := ygw (hn.all hk0)
   refine yp (yj (yj (yl (sS ?_))))
   refine yd (eR ?_)
   exact ⟨by rw [hws.1, hws.2]; simp [go_sem], by simp [go_sem]⟩

set_option maxHeartbeats 1000000 in
theorem ymV (d : D) (hd : d.size ≤ 100000000) : Pur Tryz.prog (GL kr) 49 [.pv (enc d)] (.tuple [.pv (schk d).1, .pv (.int .i64 (schk d).2)]) := by
 refine yB fun σ hgl => ?_
 refine yk tyOk Tryz.func49 rfl (by simp [Tryz.f49]) ?_
 refine sS ?_
 refine ya (sG ?_)
 refine aT 1 ?_
 refine aG yro ((ymT d (by omega)) _ (by exact hgl)) ?_
 refine aT 1 ?_
 refine ye (sS ?_)
 refine yc (by first | rfl | (simp [go_sem, Yo] <;> rfl)) (fun h0 => ?_) (fun h0 => ?_)
 ·refine ya (aS ?_)
  refine yd (yf (eR ?_))
  exact ⟨by simp only [schk, h0, if_true]; simp [go_sem], by simp [go_sem]⟩
 ·have hdz : dcheck d = 0 := by simpa using h0
  have hfm : formed d = true := ydj hdz
  refine yg (ya (sG ?_))
  refine aT 1 ?_
  refine aG yl3 ((yqz d hd hfm) _ (by exact hgl)) ?_
  refine aT 5 ?_
  refine ye (sS ?_)
  refine yc (by first | rfl | (simp [go_sem, Yo] <;> rfl)) (fun h1 => ?_) (fun h1 => ?_)
  ·refine ya (aS ?_)
   refine yd (yf (eR ?_))
   exact ⟨by simp only [schk, h0, h1, Bool.false_eq_true, if_true, if_false]; simp [go_sem], by simp [go_sem]⟩
  ·refine yg (sS ?_)
   refine yd (eR ?_)
   exact ⟨by simp only [schk, h0, h1, Bool.false_eq_true, if_false]; simp [go_sem], by simp [go_sem]⟩

set_option maxHeartbeats 1000000 in
theorem yng (d : D) (hd : d.size ≤ 100000000) (hf : formed d = true) : Pur Tryz.prog (GL kr) 151 [.pv (enc d)] (.pv (.slice ((ownS d).map .str))) := by
 have hkl := D.kids_length_lt d
 have hsl := yZ d
 refine yB fun σ hgl => ?_
 refine yk tyOk Tryz.func151 rfl (by simp [Tryz.f151]) ?_
 refine sS ?_
 refine sS ?_
 refine ya (sG ?_)
 refine aT 1 ?_
 refine aG yb3 ((ybb d (by omega) hf) _ (by exact hgl)) ?_
 refine ye (yh (ya (sS ?_)))
 refine aC (fun h0 => ?_) (fun h0 => ?_)
 ·have hk : yb d = 5 ∨ yb d = 9 := by first | exact .inl (by simpa using h0) | exact .inr (by simpa using h0)
  have hlen := hsl.1 (by omega)
  obtain ⟨x1, hx1, hx1m⟩ := ym (l := d.kids) (k := 1) (by omega)
  have hd1 : d1 d.kids = x1 := yC hx1
  have hxs := D.size_kid_lt hx1m
  have hxl := D.kids_length_lt x1
  have hfx1 := yT hf hx1m
  have hlb : Zy x1.kids = false := by rw [← hd1]; exact (yfl (ymC hk)).1
  have hown : ownS d = x1.kids.map D.text := by unfold ownS; rw [hd1]; rcases hk with h | h <;> rw [h] <;> rfl
  refine yg (yc (b := true) (by simp [go_sem, h0]) (fun h => ?_) (fun h => ?_))
  rotate_left
  ·cases h
  refine yS ?_
  refine aL 4 (by simp [go_sem, hx1] <;> rfl) ?_
  refine aG yd5 ((ycL x1 (by omega) (fun x hx => yT hfx1 hx)) _ (by exact hgl)) ?_
  refine aL 4 (by simp [go_sem, hlb] <;> rfl) ?_
  refine ye (sS ?_)
  refine yd (eR ?_)
  exact ⟨by rw [hown]; first | (simp [go_sem]; done) | (simp [go_sem]; rfl), by simp [go_sem]⟩
 ·refine aS ?_
  refine aC (fun h1 => ?_) (fun h1 => ?_)
  ·have hk : yb d = 5 ∨ yb d = 9 := by first | exact .inl (by simpa using h1) | exact .inr (by simpa using h1)
   have hlen := hsl.1 (by omega)
   obtain ⟨x1, hx1, hx1m⟩ := ym (l := d.kids) (k := 1) (by omega)
   have hd1 : d1 d.kids = x1 := yC hx1
   have hxs := D.size_kid_lt hx1m
   have hxl := D.kids_length_lt x1
   have hfx1 := yT hf hx1m
   have hlb : Zy x1.kids = false := by rw [← hd1]; exact (yfl (ymC hk)).1
   have hown : ownS d = x1.kids.map D.text := by unfold ownS; rw [hd1]; rcases hk with h | h <;> rw [h] <;> rfl
   refine yS ?_
   refine aL 4 (by simp [go_sem, hx1] <;> rfl) ?_
   refine aG yd5 ((ycL x1 (by omega) (fun x hx => yT hfx1 hx)) _ (by exact hgl)) ?_
   refine aL 4 (by simp [go_sem, hlb] <;> rfl) ?_
   refine ye (sS ?_)
   refine yd (eR ?_)
   exact ⟨by rw [hown]; first | (simp [go_sem]; done) | (simp [go_sem]; rfl), by simp [go_sem]⟩
  ·refine ya (aS ?_)
   refine aC (fun h2 => ?_) (fun h2 => ?_)
   ·have hk : yb d = 6 := by simpa using h2
    have hlen := hsl.2.1 hk
    obtain ⟨x1, hx1, hx1m⟩ := ym (l := d.kids) (k := 1) (by omega)
    have hd1 : d1 d.kids = x1 := yC hx1
    have hxs := D.size_kid_lt hx1m
    have hxl := D.kids_length_lt x1
    have hfx1 := yT hf hx1m
    have hown : ownS d = [x1.text] := by unfold ownS; rw [hd1, hk]; rfl
    refine aR (by simp [go_sem, hx1] <;> rfl) ?_
    refine sS ?_
    refine yd (eR ?_)
    exact ⟨by rw [hown]; first | (simp [go_sem]; done) | (simp [go_sem]; rfl), by simp [go_sem]⟩
   ·refine ya (aS ?_)
    refine aC (fun h3 => ?_) (fun h3 => ?_)
    ·have hk : yb d = 7 := by simpa using h3
     have hlen := hsl.1 (by omega)
     obtain ⟨x1, hx1, hx1m⟩ := ym (l := d.kids) (k := 1) (by omega)
     have hd1 : d1 d.kids = x1 := yC hx1
     have hxs := D.size_kid_lt hx1m
     have hxl := D.kids_length_lt x1
     have hfx1 := yT hf hx1m
     have hk3 := hsl.2.2 hk
     rw [hd1] at hk3
     have hown : ownS d = x1.kids.map fun x => x.head.text := by unfold ownS; rw [hd1, hk]; rfl
     have hwn : ∀ k, (x1.kids.map fun x => PV.str x.head.text).take k = ((x1.kids.map fun x => x.head.text).map .str).take k := fun k => by rw [List.map_map]; rfl
     refine sS ?_
     refine zF 3 9 1 (by simp [go_sem] <;> rfl) ?_
     refine yh (yq σ.objs.length (σ.toks.length + 1) 1 [1, 2] (fun k : Nat => [(3, .acc ((x1.kids.map fun x => PV.str x.head.text).take k) σ.toks.length), (4, .pv (.int .i64 ↑k))]) (fun k => { σ with toks := σ.toks ++ [⟨k, 9, 1⟩] }) (fun k => k ≤ x1.kids.length) (fun k => x1.kids.length - k) 0 (Nat.zero_le _) ⟨by simp [go_sem], rfl, by simp, by simp, by simp [go_sem], fun ob h => .inl (by simpa [go_sem, hx1] using h), by simp [go_sem]⟩ ?_)
     intro k hk
     refine ya (sA (by simp [go_sem, hx1] <;> rfl) ?_)
     refine yc (by first | rfl | (simp [go_sem, hx1] <;> rfl)) (fun h4 => ?_) (fun h4 => ?_)
     ·have hlt : k < x1.kids.length := by simp at h4; omega
      have hw : IntKind.i64.wrap (↑k + 1) = (k : Int) + 1 := yv (by omega)
      obtain ⟨x, hx, hxm⟩ := ym hlt
      obtain ⟨y0, hy0, hy0m⟩ := ym (l := x.kids) (k := 0) (by rw [hk3 x hxm]; decide)
      have hh0 : x.head = y0 := ybj hy0
      have hnx : (x1.kids.map fun x => PV.str x.head.text).take (k + 1) = (x1.kids.map fun x => PV.str x.head.text).take k ++ [.str x.head.text] := yI (by simp [hx])
      have hm : min k x1.kids.length = k := by omega
      have hb2 : (k + 1) * 16 ≤ 140737488355328 := by omega
      refine yg (ya (yh (aR (by simp [go_sem, hx1, hx, hy0, hm, hb2] <;> rfl) ?_)))
      refine aS ?_
      exact yx (k + 1) σ.objs.length (σ.toks.length + 1) 1 (hlt) (by omega) ⟨by simp [go_sem, hnx, hh0], rfl, by simp, by simp, by simp [go_sem, hw, hnx, hh0], fun ob h => .inl (by simpa [go_sem, hx1, hx, hy0, hm, hb2, hw, hnx, hh0] using h), by simp [go_sem]⟩
     ·have hke : k = x1.kids.length := by simp at h4; omega
      subst hke
      refine yp (yj (yj (yl (sS ?_))))
      refine yd (eR ?_)
      exact ⟨by rw [hown]; first | (simp [go_sem]; done) | (simp [go_sem]; rfl), by simp [go_sem]⟩
    ·have hown : ownS d = [] := by unfold ownS; simp only [h0, h1, h2, h3, Bool.false_eq_true, if_false] <;> rfl
     refine yg (sS ?_)
     refine yd (eR ?_)
     exact ⟨by rw [hown]; first | (simp [go_sem]; done) | (simp [go_sem]; rfl), by simp [go_sem]⟩

set_option maxHeartbeats 1000000 in
theorem ybo (env : List Bd) (p : List Int) (n : Int) (ns : List ByteArray) (he : env.length + ns.length ≤ 1000000000) (h0 : 0 ≤ n) (h1 : n ≤ 1000000000) : Pur Tryz.prog (GL kr) 152 [.pv (.slice (env.map z7)), .pv (.slice (ipv p)), .pv (.int .i64 n), .pv (.slice (ns.map .str))] (.pv (.slice ((env ++ bdW p n ns).map z7))) := by
 have hb1 : env.length * 48 ≤ 140737488355328 := by omega
 have hw0 := yni env p n ns
 refine yB fun σ hgl => ?_
 refine yk tyOk Tryz.func152 rfl (by simp [Tryz.f152]) ?_
 refine sS ?_
 refine sA (by simp [go_sem, hb1] <;> rfl) ?_
 refine ya (sS ?_)
 refine yh (yq σ.objs.length (σ.toks.length + 1) 0 [1, 2, 3, 8] (fun k : Nat => [(9, .acc ((wEnv env p n ns k).map z7) σ.toks.length), (10, .pv (.int .i64 ↑k))]) (fun k => { σ with toks := σ.toks ++ [⟨(wEnv env p n ns k).length, 54, 3⟩] }) (fun k => k ≤ ns.length) (fun k => ns.length - k) 0 (Nat.zero_le _) ⟨by simp [go_sem, hw0], rfl, by simp, by simp, by simp [go_sem, hw0], fun ob h => .inl (by simpa [go_sem, hb1, hw0] using h), by simp [go_sem]⟩ ?_)
 intro k hk
 refine ya (sS ?_)
 refine yc (by first | rfl | (simp [go_sem, hb1] <;> rfl)) (fun h0 => ?_) (fun h0 => ?_)
 ·have hlt : k < ns.length := by simp at h0; omega
  have hw : IntKind.i64.wrap (↑k + 1) = (k : Int) + 1 := yv (by omega)
  obtain ⟨x, hx, hxm⟩ := ym hlt
  have hnx := ymx (env := env) (p := p) (n := n) hx
  have hln := yiK (env := env) (p := p) (n := n) (ns := ns) (k := k) (by omega)
  have hln2 := yiK (env := env) (p := p) (n := n) (ns := ns) (k := k + 1) (by omega)
  have hwi : IntKind.i64.wrap (n + (k : Int)) = n + (k : Int) := yO (by omega) (by omega)
  have hb4 : (env.length + k + 1) * 48 ≤ 140737488355328 := Nat.le_trans (Nat.mul_le_mul_right 48 (show env.length + k + 1 ≤ 1000000000 by omega)) (by decide)
  refine yg (ya (yh (aR (by simp [go_sem, hx, hwi, hln, hb4] <;> rfl) ?_)))
  refine aS ?_
  exact yx (k + 1) σ.objs.length (σ.toks.length + 1) 0 (hlt) (by omega) ⟨by simp [go_sem, hnx, hln2, Nat.add_assoc, ipv], rfl, by simp, by simp, by simp [go_sem, hw, hnx, hln2, ipv], fun ob h => .inl (by simpa [go_sem, hb1, hx, hwi, hln, hb4, hw, hnx, hln2, Nat.add_assoc, ipv] using h), by simp [go_sem]⟩
 ·have hke : k = ns.length := by simp at h0; omega
  subst hke
  have hall := yoI env p n ns
  refine yp (yj (yj (yl (sA (by simp [go_sem, hall] <;> rfl) ?_))))
  refine yd (eR ?_)
  exact ⟨by simp [go_sem], by simp [go_sem]⟩

set_option maxHeartbeats 1000000 in
theorem yfW (d : D) (hd : d.size ≤ 100000000) (hf : formed d = true) (hk : yb d = 7) (i : Nat) (x : D) (hx : (d1 d.kids).kids[i]? = some x) : Pur Tryz.prog (GL kr) 154 [.pv (enc d), .pv (.int .i64 (i : Int))] (.pv (.slice ((parS x).map .str))) := by
 have hkl := D.kids_length_lt d
 have hsl := yZ d
 have hlen := hsl.1 (by omega)
 obtain ⟨x1, hx1, hx1m⟩ := ym (l := d.kids) (k := 1) (by omega)
 have hd1 : d1 d.kids = x1 := yC hx1
 have hxs := D.size_kid_lt hx1m
 have hxl := D.kids_length_lt x1
 have hfx1 := yT hf hx1m
 have hk3 := hsl.2.2 hk
 have hxm := List.mem_of_getElem? hx
 have hil := (List.getElem?_eq_some_iff.1 hx).1
 have hx3 := hk3 x hxm
 obtain ⟨y1, hy1, hy1m⟩ := ym (l := x.kids) (k := 1) (by omega)
 have hy : d1 x.kids = y1 := yC hy1
 have hlb : Zy y1.kids = false := by rw [← hy]; exact (yfl (yqd hk hxm)).1
 rw [hd1] at hx hil hxm
 have hpr : parS x = y1.kids.map D.text := by unfold parS; rw [hy]
 have hz1 := D.size_kid_lt hxm
 have hz2 := D.size_kid_lt hy1m
 have hxg : x1.kids[i] = x := (List.getElem?_eq_some_iff.1 hx).2
 refine yB fun σ hgl => ?_
 refine yk tyOk Tryz.func154 rfl (by simp [Tryz.f154]) ?_
 refine sS ?_
 refine sG ?_
 refine aL 11 (by simp [go_sem, hx1, hy1, hil, hxg] <;> rfl) ?_
 refine aG yd5 ((ycL y1 (by omega) (fun z hz => yT (yT (yT hfx1 hxm) hy1m) hz)) _ (by exact hgl)) ?_
 refine aL 5 (by simp [go_sem, hlb] <;> rfl) ?_
 refine ye (sS ?_)
 refine yd (eR ?_)
 exact ⟨by rw [hpr]; simp [go_sem], by simp [go_sem]⟩

set_option maxHeartbeats 1000000 in
theorem ynx (d : D) (hd : d.size ≤ 100000000) (hf : formed d = true) (hk : yb d = 7) (i : Nat) (hi : i ≤ (d1 d.kids).kids.length) : Pur Tryz.prog (GL kr) 153 [.pv (enc d), .pv (.int .i64 (i : Int))] (.pv (.int .i64 (yR (d1 d.kids).kids i))) := by
 have hkl := D.kids_length_lt d
 have hsl := yZ d
 have hlen := hsl.1 (by omega)
 obtain ⟨x1, hx1, hx1m⟩ := ym (l := d.kids) (k := 1) (by omega)
 have hd1 : d1 d.kids = x1 := yC hx1
 have hxs := D.size_kid_lt hx1m
 have hxl := D.kids_length_lt x1
 have hfx1 := yT hf hx1m
 have hk3 := hsl.2.2 hk
 have hfz := yaV (d1 d.kids).kids
 have hfle := Y3 (d1 d.kids).kids
 have hsz := D.size_kids (d1 d.kids)
 rw [hd1] at hfz hfle hsz hi
 rw [hd1]
 refine yB fun σ hgl => ?_
 refine yk tyOk Tryz.func153 rfl (by simp [Tryz.f153]) ?_
 refine sS ?_
 refine sA (by simp [go_sem, hx1] <;> rfl) ?_
 refine ya (sS ?_)
 refine yh (yq σ.objs.length σ.toks.length 1 [1, 2, 4] (fun k : Nat => [(5, .pv (.int .i64 (yR x1.kids k))), (6, .pv (.int .i64 ↑k))]) (fun k => σ) (fun k => k ≤ i) (fun k => i - k) 0 (Nat.zero_le _) ⟨by simp [go_sem, hfz], rfl, by simp, by simp, by simp [go_sem, hfz], fun ob h => .inl (by simpa [go_sem, hx1, hfz] using h), by simp [go_sem]⟩ ?_)
 intro k hki
 refine ya (sS ?_)
 refine yc (by first | rfl | (simp [go_sem, hx1] <;> rfl)) (fun h0 => ?_) (fun h0 => ?_)
 ·have hlt : k < i := by simp at h0; omega
  have hw : IntKind.i64.wrap (↑k + 1) = (k : Int) + 1 := yv (by omega)
  obtain ⟨x, hx, hxm⟩ := ym (l := x1.kids) (k := k) (by omega)
  have hfn := Z2 hx
  have h1 := hfle k (by omega)
  have h2 := hfle (k + 1) (by omega)
  have hwa : IntKind.i64.wrap (yR x1.kids k + ((parS x).length : Int)) = yR x1.kids (k + 1) := by rw [hfn]; exact yO (by omega) (by omega)
  refine yg (ya (yh (yS ?_)))
  refine aT 3 ?_
  refine aG ykL ((yfW d hd hf hk k x (by rw [hd1]; exact hx)) _ (by exact hgl)) ?_
  refine aL 3 (by simp [go_sem, hwa] <;> rfl) ?_
  refine ye (aS ?_)
  exact yx (k + 1) σ.objs.length σ.toks.length 1 (hlt) (by omega) ⟨by simp [go_sem], rfl, by simp, by simp, by simp [go_sem, hw], fun ob h => .inl (by simpa [go_sem, hx1, hwa, hw] using h), by simp [go_sem]⟩
 ·have hke : k = i := by simp at h0; omega
  subst hke
  refine yp (yj (yj (yl (sS ?_))))
  refine yd (eR ?_)
  exact ⟨by simp [go_sem], by simp [go_sem]⟩

set_option maxHeartbeats 1000000 in
theorem yog (p q : List Int) (hp : p.length ≤ 400000000) (hq : q.length ≤ 400000000) : Pur Tryz.prog (GL kr) 107 [.pv (.slice (ipv p)), .pv (.slice (ipv q))] (.pv (.slice (ipv (p ++ q)))) := by
 have hb1 : p.length * 8 ≤ 140737488355328 := by omega
 have hb2 : (p.length + q.length) * 8 ≤ 140737488355328 := by omega
 have hap := ycw p q
 refine yB fun σ hgl => ?_
 refine yk tyOk Tryz.func107 rfl (by simp [Tryz.f107]) ?_
 refine sS ?_
 refine sA (by simp [go_sem, yA, hb1, hb2] <;> rfl) ?_
 refine yd (eR ?_)
 exact ⟨by simp [go_sem, hap], by simp [go_sem]⟩

set_option maxHeartbeats 4000000 in
theorem yn4 (d : D) (hd : d.size ≤ 100000000) (hf : formed d = true) (p : List Int) (env : List Bd) (he : env.length + 3 * d.size ≤ 1000000000) : Pur Tryz.prog (GL kr) 106 [.pv (enc d), .pv (.slice (ipv p)), .pv (.slice (env.map z7))] (.pv (.slice ((scps d p env).map scpP))) := by
 have hkl := D.kids_length_lt d
 have hsl := yZ d
 have hpl := yag d
 have hsle := yeg d
 have hol := yau d
 have ht0 : ((scps d p env).map scpP).take 0 = [] := rfl
 have hscl := yiA d p env
 have hfle := Y3 (d1 d.kids).kids
 refine yB fun σ hgl => ?_
 refine yk tyOk Tryz.func106 rfl (by simp [Tryz.f106]) ?_
 refine sS ?_
 refine sG ?_
 refine aT 1 ?_
 refine aG ypE ((yng d hd hf) _ (by exact hgl)) ?_
 refine aT 1 ?_
 refine ye (sG ?_)
 refine aT 1 ?_
 refine aG yfI ((ybq d hd hf) _ (by exact hgl)) ?_
 refine aL 2 (by simp [go_sem, hpl] <;> rfl) ?_
 refine ye (sS ?_)
 refine ya (sS ?_)
 refine zF 9 50 1 (by simp [go_sem] <;> rfl) ?_
 refine yh (yq σ.objs.length (σ.toks.length + 1) 1 [1, 2, 3, 6, 7, 8] (fun k : Nat => [(9, .acc (((scps d p env).map scpP).take k) σ.toks.length), (10, .pv (.int .i64 ↑k))]) (fun k => { σ with toks := σ.toks ++ [⟨k, 50, 1⟩] }) (fun k => k ≤ (subs d).length) (fun k => (subs d).length - k) 0 (Nat.zero_le _) ⟨by simp [go_sem, ht0], rfl, by simp, by simp, by simp [go_sem, ht0], fun ob h => .inl (by simpa [go_sem, hpl, ht0] using h), by simp [go_sem]⟩ ?_)
 intro k hk
 refine ya (sS ?_)
 refine yc (by first | rfl | (simp [go_sem, hpl] <;> rfl)) (fun h0 => ?_) (fun h0 => ?_)
 ·have hlt : k < (subs d).length := by simp at h0; omega
  have hw : IntKind.i64.wrap (↑k + 1) = (k : Int) + 1 := yv (by omega)
  obtain ⟨q, hq, hqm⟩ := ym (l := subs d) (k := k) (by omega)
  have hnx : ((scps d p env).map scpP).take (k + 1) = ((scps d p env).map scpP).take k ++ [.slice ((env ++ bdS p q.1.ns).map z7)] := yI (by rw [List.getElem?_map, yfn hq]; rfl)
  have hm : min k (scps d p env).length = k := by omega
  have hb2 : (k + 1) * 24 ≤ 140737488355328 := by omega
  have hws : IntKind.i64.wrap (((subs d).length : Int) - 1) = ((subs d).length : Int) - 1 := yO (by omega) (by omega)
  refine yg (ya (yh (sS ?_)))
  refine ya (sG ?_)
  refine aT 1 ?_
  refine aG yb3 ((ybb d (by omega) hf) _ (by exact hgl)) ?_
  refine aT 1 ?_
  refine ye (yh (sG ?_))
  refine aT 3 ?_
  refine yn 29 (by first | rfl | (simp [go_sem, hpl, hm, hb2, hws] <;> rfl)) (fun h1 => ?_) (fun h1 => ?_)
  ·have hk : yb d = 5 := by simpa using h1
   have hsc : env ++ bdS p q.1.ns = env ++ bdW p 0 (ownS d) := by rw [yi5 (.inl hk) hqm]
   refine aK 2 29 false ?_
   refine aT 2 ?_
   refine aK 3 33 false ?_
   refine aK 2 36 true ?_
   refine aK 1 33 false ?_
   refine aT 2 ?_
   refine ye (yc (b := true) (by simp [go_sem]) (fun h => ?_) (fun h => ?_))
   rotate_left
   ·cases h
   refine yS ?_
   refine aT 3 ?_
   refine aG ycm ((ybo env p 0 (ownS d) (by omega) (by omega) (by omega)) _ (by exact hgl)) ?_
   refine aT 1 ?_
   refine ye (aR (by simp [go_sem, hm, hb2] <;> rfl) ?_)
   refine aS ?_
   exact yx (k + 1) σ.objs.length (σ.toks.length + 1) 1 (hlt) (by omega) ⟨by simp [go_sem, hnx, hsc], rfl, by simp, by simp, by simp [go_sem, hw, hnx, hsc], fun ob h => .inl (by simpa [go_sem, hpl, hm, hb2, hws, hw, hnx, hsc] using h), by simp [go_sem]⟩
  ·refine aLG 2 29 false (by simp [go_sem] <;> rfl) ?_
   refine aT 2 ?_
   refine yn 33 (by first | rfl | (simp [go_sem, hpl, hm, hb2, hws] <;> rfl)) (fun h2 => ?_) (fun h2 => ?_)
   ·have hk : yb d = 9 := by simpa using h2
    have hsc : env ++ bdS p q.1.ns = env ++ bdW p 0 (ownS d) := by rw [yi5 (.inr hk) hqm]
    refine aK 3 33 false ?_
    refine aK 2 36 true ?_
    refine aK 1 33 false ?_
    refine aT 2 ?_
    refine ye (yc (b := true) (by simp [go_sem]) (fun h => ?_) (fun h => ?_))
    rotate_left
    ·cases h
    refine yS ?_
    refine aT 3 ?_
    refine aG ycm ((ybo env p 0 (ownS d) (by omega) (by omega) (by omega)) _ (by exact hgl)) ?_
    refine aT 1 ?_
    refine ye (aR (by simp [go_sem, hm, hb2] <;> rfl) ?_)
    refine aS ?_
    exact yx (k + 1) σ.objs.length (σ.toks.length + 1) 1 (hlt) (by omega) ⟨by simp [go_sem, hnx, hsc], rfl, by simp, by simp, by simp [go_sem, hw, hnx, hsc], fun ob h => .inl (by simpa [go_sem, hpl, hm, hb2, hws, hw, hnx, hsc] using h), by simp [go_sem]⟩
   ·refine aLG 3 33 false (by simp [go_sem] <;> rfl) ?_
    refine yn 36 (by first | rfl | (simp [go_sem, hpl, hm, hb2, hws] <;> rfl)) (fun h3 => ?_) (fun h3 => ?_)
    ·have hk : yb d = 6 := by simpa using h3
     have hll := ykp hk
     refine aLG 2 36 true (by simp [go_sem] <;> rfl) ?_
     refine aLG 1 33 false (by simp [go_sem] <;> rfl) ?_
     refine aT 2 ?_
     refine ye (yc (by first | rfl | (simp [go_sem, hpl, hm, hb2, hws] <;> rfl)) (fun h4 => ?_) (fun h4 => ?_))
     ·have hk1 : k = 1 := by have h := h4; simp at h; omega
      have hsc : env ++ bdS p q.1.ns = env ++ bdW p 0 (ownS d) := by rw [yif hk (hk1 ▸ hq)]
      refine yS ?_
      refine aT 3 ?_
      refine aG ycm ((ybo env p 0 (ownS d) (by omega) (by omega) (by omega)) _ (by exact hgl)) ?_
      refine aT 1 ?_
      refine ye (aR (by simp [go_sem, hm, hb2] <;> rfl) ?_)
      refine aS ?_
      exact yx (k + 1) σ.objs.length (σ.toks.length + 1) 1 (hlt) (by omega) ⟨by simp [go_sem, hnx, hsc], rfl, by simp, by simp, by simp [go_sem, hw, hnx, hsc], fun ob h => .inl (by simpa [go_sem, hpl, hm, hb2, hws, hw, hnx, hsc] using h), by simp [go_sem]⟩
     ·have hk1 : k = 0 := by have h := h4; simp at h; omega
      have hsc : env ++ bdS p q.1.ns = env := by rw [yih hk (hk1 ▸ hq), List.append_nil]
      refine sS ?_
      refine yc (by first | rfl | (simp [go_sem, hpl, hm, hb2, hws] <;> rfl)) (fun h5 => ?_) (fun h5 => ?_)
      ·exfalso; have h := h5; simp at h; omega
      ·refine yg (aR (by simp [go_sem, hm, hb2] <;> rfl) ?_)
       refine aS ?_
       exact yx (k + 1) σ.objs.length (σ.toks.length + 1) 1 (hlt) (by omega) ⟨by simp [go_sem, hnx, hsc], rfl, by simp, by simp, by simp [go_sem, hw, hnx, hsc], fun ob h => .inl (by simpa [go_sem, hpl, hm, hb2, hws, hw, hnx, hsc] using h), by simp [go_sem]⟩
    ·refine aK 2 36 true ?_
     refine aLG 1 33 false (by simp [go_sem] <;> rfl) ?_
     refine aT 2 ?_
     refine ye (yc (b := false) (by simp [go_sem]) (fun h => ?_) (fun h => ?_))
     ·cases h
     refine sS ?_
     refine yc (by first | rfl | (simp [go_sem, hpl, hm, hb2, hws] <;> rfl)) (fun h6 => ?_) (fun h6 => ?_)
     ·have hk : yb d = 7 := by simpa using h6
      have hlen := hsl.1 (by omega)
      obtain ⟨x1, hx1, hx1m⟩ := ym (l := d.kids) (k := 1) (by omega)
      have hd1 : d1 d.kids = x1 := yC hx1
      have hxs := D.size_kid_lt hx1m
      have hxl := D.kids_length_lt x1
      have hfx1 := yT hf hx1m
      have hsz1 := D.size_kids x1
      have hrl := zR hk
      rw [hd1] at hrl hfle
      refine sG ?_
      refine aT 3 ?_
      refine aG ycm ((ybo env p 0 (ownS d) (by omega) (by omega) (by omega)) _ (by exact hgl)) ?_
      refine aT 1 ?_
      refine ye (sA (by simp [go_sem, hws] <;> rfl) ?_)
      refine yc (by first | rfl | (simp [go_sem, hpl, hm, hb2, hws] <;> rfl)) (fun h7 => ?_) (fun h7 => ?_)
      ·have hkx : k < x1.kids.length := by have h := h7; simp at h; omega
       obtain ⟨x, hx, hxm⟩ := ym hkx
       have hf1 := hfle k (by omega)
       have hpx := ykq x
       have hzx := D.size_kid_lt hxm
       have hfr : yR (d1 d.kids).kids k = yR x1.kids k := by rw [hd1]
       have hsc : env ++ bdS p q.1.ns = env ++ bdW p 0 (ownS d) ++ bdW p (yR x1.kids k) (parS x) := by rw [ykf hk hq (by rw [hd1]; exact hx), hd1, List.append_assoc]
       refine Yq tyOk tySz 8 (by kernel_rfl) (by decide) ?_
       refine yo 4 (by simp [go_sem] <;> rfl) ?_
       refine yQ (by first | (intro _ _ hh; exact hh) | simp [go_sem]) rfl rfl rfl rfl (by simp [go_sem] <;> rfl) yps ((ynx d hd hf hk k (by rw [hd1]; omega)) _ (by exact hgl)) (by simp [go_sem] <;> rfl) (by simp [go_sem]) rfl rfl ?_
       refine yo 2 (by simp [go_sem, hfr] <;> rfl) ?_
       refine yQ (by first | (intro _ _ hh; exact hh) | simp [go_sem]) rfl rfl rfl rfl (by simp [go_sem] <;> rfl) ykL ((yfW d hd hf hk k x (by rw [hd1]; exact hx)) _ (by exact hgl)) (by simp [go_sem] <;> rfl) (by simp [go_sem]) rfl rfl ?_
       refine yF ?_
       refine aG ycm ((ybo (env ++ bdW p 0 (ownS d)) p (yR x1.kids k) (parS x) (by rw [List.length_append, ygR]; omega) (by omega) (by omega)) _ (by exact hgl)) ?_
       refine aT 1 ?_
       refine ye (aR (by simp [go_sem, hm, hb2] <;> rfl) ?_)
       refine aS ?_
       exact yx (k + 1) σ.objs.length (σ.toks.length + 1) 1 (hlt) (by omega) ⟨by simp [go_sem, hnx, hsc], rfl, by simp, by simp, by simp [go_sem, hw, hnx, hsc], fun ob h => .inl (by simpa [go_sem, hpl, hm, hb2, hws, hfr, hw, hnx, hsc] using h), by simp [go_sem]⟩
      ·have hkx : k = x1.kids.length := by have h := h7; simp at h; omega
       have hsc : env ++ bdS p q.1.ns = env ++ bdW p 0 (ownS d) := by rw [yid hk (by rw [hd1, ← hkx]; exact hq)]
       refine yg (aR (by simp [go_sem, hm, hb2] <;> rfl) ?_)
       refine aS ?_
       exact yx (k + 1) σ.objs.length (σ.toks.length + 1) 1 (hlt) (by omega) ⟨by simp [go_sem, hnx, hsc], rfl, by simp, by simp, by simp [go_sem, hw, hnx, hsc], fun ob h => .inl (by simpa [go_sem, hpl, hm, hb2, hws, hw, hnx, hsc] using h), by simp [go_sem]⟩
     ·have hsc : env ++ bdS p q.1.ns = env := by rw [yi2 (by simp only [beq_eq_false_iff_ne, ne_eq] at *; omega) hqm, List.append_nil]
      refine yg (aR (by simp [go_sem, hm, hb2] <;> rfl) ?_)
      refine aS ?_
      exact yx (k + 1) σ.objs.length (σ.toks.length + 1) 1 (hlt) (by omega) ⟨by simp [go_sem, hnx, hsc], rfl, by simp, by simp, by simp [go_sem, hw, hnx, hsc], fun ob h => .inl (by simpa [go_sem, hpl, hm, hb2, hws, hw, hnx, hsc] using h), by simp [go_sem]⟩
 ·have hke : k = (subs d).length := by simp at h0; omega
  subst hke
  have hfin : ((scps d p env).map scpP).take (subs d).length = (scps d p env).map scpP := List.take_of_length_le (by rw [List.length_map]; omega)
  refine yp (yj (yj (yl (sA (by simp [go_sem, hfin] <;> rfl) ?_))))
  refine yd (eR ?_)
  exact ⟨by simp [go_sem], by simp [go_sem]⟩

end Go.Proofs.YtigideidmcmfbaaGreatDoor

namespace Go.Proofs.YtigideidmcmfbaaGreatDoor
open Go Go.Aw
variable {kr : KR}
set_option maxHeartbeats 1000000 in
theorem ysa (d : D) : ∀ (hd : d.size ≤ 100000000) (hf : formed d = true) (p : List Int) (hp : p.length + 3 * d.size ≤ 400000000) (env : List Bd) (he : env.length + 3 * d.size ≤ 1000000000), Pur Tryz.prog (GL kr) 64 [.pv (enc d), .pv (.slice (ipv p)), .pv (.slice (env.map z7))] (.pv (.slice ((rvars d p env).map yad))) := by
 induction d using D.indS with
 | _ d ih =>
 intro hd hf p hp env he
 refine yB fun σ hgl => ?_
 have hpl := yag d
 have hsle := yeg d
 have hz0 := yoy d p env
 have hscl := yiA d p env
 refine yk tyOk Tryz.func64 rfl (by simp [Tryz.f64]) ?_
 refine sS ?_
 refine ya (sG ?_)
 refine aT 1 ?_
 refine aG yb3 ((ybb d (by omega) hf) _ (by exact hgl)) ?_
 refine aT 1 ?_
 refine ye (aC (fun h0 => ?_) (fun h0 => ?_))
 ·have hk : yb d = 2 := by simpa using h0
  refine sS ?_
  refine yd (yf (eR ?_))
  exact ⟨by rw [Zm, if_pos (by simpa using hk)]; simp [go_sem, yad, ipv], by simp [go_sem]⟩
 ·have hk : yb d ≠ 2 := by simpa using h0
  refine yg (sS ?_)
  refine ya (Yq tyOk tySz 7 (by kernel_rfl) (by decide) ?_)
  refine yo 1 (by simp [go_sem] <;> rfl) ?_
  refine yQ (by first | (intro _ _ hh; exact hh) | simp [go_sem]) rfl rfl rfl rfl (by simp [go_sem] <;> rfl) yfI ((ybq d hd hf) _ (by exact hgl)) (by simp [go_sem] <;> rfl) (by simp [go_sem]) rfl rfl ?_
  refine yo 1 (by simp [go_sem] <;> rfl) ?_
  refine yQ (by first | (intro _ _ hh; exact hh) | simp [go_sem]) rfl rfl rfl rfl (by simp [go_sem] <;> rfl) ynn ((yiP d hd hf) _ (by exact hgl)) (by simp [go_sem] <;> rfl) (by simp [go_sem]) rfl rfl ?_
  refine yo 3 (by simp [go_sem] <;> rfl) ?_
  refine yF ?_
  refine aG yp6 ((yn4 d hd hf p env he) _ (by exact hgl)) ?_
  refine aT 3 ?_
  refine ye (ya (sS ?_))
  refine zF 7 52 3 (by simp [go_sem] <;> rfl) ?_
  refine yh (yq σ.objs.length (σ.toks.length + 1) 1 [1, 6, 8, 9, 10] (fun k : Nat => [(7, .acc ((rvK d p env k).map yad) σ.toks.length), (11, .pv (.int .i64 ↑k))]) (fun k => { σ with toks := σ.toks ++ [⟨(rvK d p env k).length, 52, 3⟩] }) (fun k => k ≤ (prts d).length) (fun k => (prts d).length - k) 0 (Nat.zero_le _) ⟨by simp [go_sem, hz0], rfl, by simp, by simp, by simp [go_sem, hz0], fun ob h => .inl (by simpa [go_sem, hz0] using h), by simp [go_sem]⟩ ?_)
  intro k hkl
  refine ya (sS ?_)
  refine aC (fun h1 => ?_) (fun h1 => ?_)
  ·have hlt : k < (prts d).length := by simp at h1; omega
   have hw : IntKind.i64.wrap (↑k + 1) = (k : Int) + 1 := yv (by omega)
   obtain ⟨y, hy, hym⟩ := ym hlt
   obtain ⟨q, hq, hqm⟩ := ym (l := subs d) (k := k) (by omega)
   have hyq : y = q.1.p := by have := yaf hq; rw [hy] at this; exact Option.some.inj this
   subst hyq
   have hns := ypb hqm
   have hqs := Ys hqm
   have hsg : ((scps d p env).map scpP)[k]? = some (scpP (env ++ bdS p q.1.ns)) := by rw [List.getElem?_map, yfn hq]; rfl
   have hsg2 : (scps d p env)[k]? = some (env ++ bdS p q.1.ns) := yfn hq
   obtain ⟨vs, hvs⟩ : ∃ z, z = rvars q.2 (p ++ q.1.p) (env ++ bdS p q.1.ns) := ⟨_, rfl⟩
   have hvs2 := hvs.symm
   have hnx := yfp (p := p) (env := env) hq
   rw [← hvs] at hnx
   have hln := yqp (d := d) (p := p) (env := env) hk (k + 1)
   rw [hnx, List.length_append] at hln
   have hb2 : ((rvK d p env k).length + vs.length) * 64 ≤ 140737488355328 := Nat.le_trans (Nat.mul_le_mul_right 64 (show _ ≤ 1000000000 by omega)) (by decide)
   refine yg (ya (yh (Yq tyOk tySz 16 (by kernel_rfl) (by decide) ?_)))
   refine yo 10 (by simp [go_sem, hy, hq] <;> rfl) ?_
   refine yQ (by first | (intro _ _ hh; exact hh) | simp [go_sem]) rfl rfl rfl rfl (by simp [go_sem] <;> rfl) yqt ((yog p q.1.p (by omega) (by have := Yc hqm; omega)) _ (by exact hgl)) (by simp [go_sem] <;> rfl) (by simp [go_sem, pthP]) rfl rfl ?_
   refine yo 4 (by simp [go_sem, hsg] <;> rfl) ?_
   refine yQ (by first | (intro _ _ hh; exact hh) | simp [go_sem]) rfl rfl rfl rfl (by simp [go_sem] <;> rfl) ynf ((ih q hqm (by omega) (yeE hf hqm) (p ++ q.1.p) (by rw [List.length_append]; have := Yc hqm; omega) (env ++ bdS p q.1.ns) (by rw [List.length_append, ykj]; omega)) _ (by exact hgl)) (by simp [go_sem] <;> rfl) (by simp [go_sem, scpP]) rfl rfl ?_
   refine yF ?_
   refine aL 2 (by simp [go_sem, hvs2, hb2] <;> rfl) ?_
   refine ye (aS ?_)
   exact yx (k + 1) σ.objs.length (σ.toks.length + 1) 1 (hlt) (by omega) ⟨by simp [go_sem, hnx], rfl, by simp, by simp, by simp [go_sem, hw, hnx], fun ob h => .inl (by simpa [go_sem, hy, hq, hsg, hsg2, hvs2, hb2, hw, hnx] using h), by simp [go_sem]⟩
  ·have hke : k = (prts d).length := by simp at h1; omega
   subst hke
   have hall := yea (p := p) (env := env) hk
   rw [← hpl] at hall
   refine yp (yj (yj (yl (sA (by simp [go_sem, hall] <;> rfl) ?_))))
   refine yd (eR ?_)
   exact ⟨by simp [go_sem], by simp [go_sem]⟩

set_option maxHeartbeats 1000000 in
theorem yr9 (d : D) (hd : d.size ≤ 100000000) (hf : formed d = true) : Pur Tryz.prog (GL kr) 25 [.pv (enc d)] (.pv (.slice ((rvars d [] []).map yad))) := by
 refine yB fun σ hgl => ?_
 refine yk tyOk Tryz.func25 rfl (by simp [Tryz.f25]) ?_
 refine sS ?_
 refine sG ?_
 refine aT 1 ?_
 refine aF ynf ((ysa d hd hf [] (by simp; omega) [] (by simp; omega)) _ (by exact hgl)) (by simp [go_sem] <;> rfl) (by simp [go_sem, ipv]) ?_
 refine aT 1 ?_
 refine ye (yd (eR ?_))
 exact ⟨by simp [go_sem], by simp [go_sem]⟩

set_option maxHeartbeats 1000000 in
theorem ypV (x : ByteArray) (env : List Bd) (he : env.length ≤ 1000000000) : Pur Tryz.prog (GL kr) 65 [.pv (.str x), .pv (.slice (env.map z7))] (.tuple [.pv (z7 ((YS x env).getD bd0)), .pv (.bool (YS x env).isSome)]) := by
 have hw0 : IntKind.i64.wrap ((env.length : Int) - 1) = (env.length : Int) - 1 := yO (by omega) (by omega)
 refine yB fun σ hgl => ?_
 refine yk tyOk Tryz.func65 rfl (by simp [Tryz.f65]) ?_
 refine sS ?_
 refine ya (sA (by simp [go_sem, hw0] <;> rfl) ?_)
 refine yh (yq σ.objs.length σ.toks.length 1 [0, 1, 4, 5] (fun k : Nat => [(6, .pv (.int .i64 ((env.length : Int) - 1 - (k : Int))))]) (fun k => σ) (fun k => k ≤ env.length ∧ NotYet (fun b : Bd => decide (b.nm = x)) env.reverse k) (fun k => env.length - k) 0 (⟨Nat.zero_le _, .zero⟩) ⟨by simp [go_sem], rfl, by simp, by simp, by simp [go_sem], fun ob h => .inl (by simpa [go_sem, hw0] using h), by simp [go_sem]⟩ ?_)
 rintro k ⟨hk, hn⟩
 refine ya (sS ?_)
 refine yc (by first | rfl | (simp [go_sem, hw0] <;> rfl)) (fun h0 => ?_) (fun h0 => ?_)
 ·have hlt : k < env.length := by have h := h0; simp at h; omega
  obtain ⟨b, hb, hbi⟩ := yry hlt
  have hki : ((env.length : Int) - 1 - (k : Int)).toNat = env.length - 1 - k := by omega
  have h0i : (0 : Int) ≤ (env.length : Int) - 1 - (k : Int) := by omega
  have h0j : (k : Int) ≤ (env.length : Int) - 1 := by omega
  have h1i : (env.length : Int) - 1 - (k : Int) < (env.length : Int) := by omega
  have hbl : env.length - 1 - k < env.length := by omega
  have hbg : env[env.length - 1 - k] = b := (List.getElem?_eq_some_iff.1 hbi).2
  have hw : IntKind.i64.wrap ((env.length : Int) - 1 - (k : Int) - 1) = (env.length : Int) - 1 - ((k + 1 : Nat) : Int) := by rw [yO (by omega) (by omega)]; omega
  refine yg (ya (yh (sA (by simp [go_sem, hki, h0j, hbg, hbl] <;> rfl) ?_)))
  refine yc (by first | rfl | (simp [go_sem, hw0, hki, h0i, h0j, h1i, hbi, hbg, hbl] <;> rfl)) (fun h1 => ?_) (fun h1 => ?_)
  ·refine ya (aR (by simp [go_sem, hki, h0j, hbg, hbl] <;> rfl) ?_)
   refine yd (yi (yf (yf (yi (yf ?_)))))
   have hsome := yjv hn hb h1
   refine eR ?_
   exact ⟨by rw [hsome]; simp [go_sem, z7], by simp [go_sem]⟩
  ·refine yg (aS ?_)
   exact yx (k + 1) σ.objs.length σ.toks.length 1 (⟨hlt, hn.succ hb h1⟩) (by omega) ⟨by simp [go_sem], rfl, by simp, by simp, by simp [go_sem, hw], fun ob h => .inl (by simpa [go_sem, hw0, hki, h0i, h0j, h1i, hbi, hbg, hbl, hw] using h), by simp [go_sem]⟩
 ·have hke : k = env.length := by have h := h0; simp at h; omega
  subst hke
  rw [← List.length_reverse] at hn
  have hnone := ylc hn
  refine yp (yj (yj (yl (sS ?_))))
  refine yd (eR ?_)
  exact ⟨by rw [hnone]; simp [go_sem, z7, bd0], by simp [go_sem]⟩

set_option maxHeartbeats 1000000 in
theorem ypO (v : Vr) (he : v.env.length ≤ 1000000000) : Pur Tryz.prog (GL kr) 27 [.pv (yad v)] (.tuple [.pv (z7 ((YS v.nm v.env).getD bd0)), .pv (.bool (YS v.nm v.env).isSome)]) := by
 refine yB fun σ hgl => ?_
 refine yk tyOk Tryz.func27 rfl (by simp [Tryz.f27]) ?_
 refine sA (by simp [go_sem, yad] <;> rfl) ?_
 refine sG ?_
 refine aT 4 ?_
 refine aG yrV ((ypV v.nm v.env he) _ (by exact hgl)) ?_
 refine aT 4 ?_
 refine ye (yd (eR ?_))
 exact ⟨by simp [go_sem, z7], by simp [go_sem]⟩

end Go.Proofs.YtigideidmcmfbaaGreatDoor

namespace Go.Proofs.YtigideidmcmfbaaGreatDoor
open Go Go.Aw
variable {kr : KR}
theorem yqZ {d : D} (h : sis d = 0) : dcheck d = 0 ∧ Zs d = true := by
  unfold sis schk at h
  split at h
  · rename_i h1
    simp only at h
    rw [h] at h1; cases h1
  · rename_i h1
    split at h
    · cases h
    · rename_i h2
      exact ⟨by simpa using h1, by simpa using h2⟩
end Go.Proofs.YtigideidmcmfbaaGreatDoor

namespace Go.Proofs.YtigideidmcmfbaaGreatDoor
open Go Go.Aw
variable {kr : KR}
def chkL (l : List D) : Int := match l.find? (fun d => sis d != 0) with
  | some d => sis d
  | none => 0
theorem ynM (d : D) : chkL [d] = sis d := by
  unfold chkL
  rw [List.find?_cons]
  by_cases h : sis d = 0
  · rw [h]; rfl
  · have : (sis d != 0) = true := by simpa using h
    rw [this]
set_option maxHeartbeats 1000000 in
theorem ynH (l : List D) (hl : l.length ≤ 1000000) (hs : ∀ x, x ∈ l → x.size ≤ 100000000) : Pur Tryz.prog (GL kr) 15 [.pv (.slice (l.map enc))] (.pv (.int .i64 (chkL l))) := by
 have hss : ∀ x, (schk x).2 = sis x := fun _ => rfl
 refine yB fun σ hgl => ?_
 refine yk tyOk Tryz.func15 rfl (by simp [Tryz.f15]) ?_
 refine sS ?_
 refine ya (sS ?_)
 refine yh (yq σ.objs.length σ.toks.length 0 [0, 2] (fun k : Nat => [(3, .pv (.int .i64 ↑k))]) (fun k => σ) (fun k => k ≤ l.length ∧ NotYet (fun d => sis d != 0) l k) (fun k => l.length - k) 0 (⟨Nat.zero_le _, .zero⟩) ⟨by simp [go_sem], rfl, by simp, by simp, by simp [go_sem], fun ob h => .inl (by simpa [go_sem, hss] using h), by simp [go_sem]⟩ ?_)
 rintro k ⟨hk, hn⟩
 refine ya (sS ?_)
 refine yc (by first | rfl | (simp [go_sem, hss] <;> rfl)) (fun h0 => ?_) (fun h0 => ?_)
 ·have hlt : k < l.length := by simp at h0; omega
  have hw : IntKind.i64.wrap (↑k + 1) = (k : Int) + 1 := yv (by omega)
  obtain ⟨x, hx, hxm⟩ := ym hlt
  refine yg (ya (yh (sG ?_)))
  refine aL 4 (by simp [go_sem, hx] <;> rfl) ?_
  refine aG yrh ((ymV x (hs x hxm)) _ (by exact hgl)) ?_
  refine aL 5 (by simp [go_sem, hss] <;> rfl) ?_
  refine ye (sS ?_)
  refine yc (by first | rfl | (simp [go_sem, hss, hx] <;> rfl)) (fun h1 => ?_) (fun h1 => ?_)
  ·refine ya (aS ?_)
   refine yd (yi (yf (yf (yi (yf ?_)))))
   have hM := yc7 hn hx h1
   refine eR ?_
   exact ⟨by unfold chkL; rw [hM]; simp [go_sem], by simp [go_sem]⟩
  ·refine yg (aS ?_)
   exact yx (k + 1) σ.objs.length σ.toks.length 0 (⟨hlt, hn.succ hx h1⟩) (by omega) ⟨by simp [go_sem], rfl, by simp, by simp, by simp [go_sem, hw], fun ob h => .inl (by simpa [go_sem, hss, hx, hw] using h), by simp [go_sem]⟩
 ·have hke : k = l.length := by simp at h0; omega
  subst hke
  have hM := ydt hn
  refine yp (yj (yj (yl (sS ?_))))
  refine yd (eR ?_)
  exact ⟨by unfold chkL; rw [hM]; simp [go_sem], by simp [go_sem]⟩

end Go.Proofs.YtigideidmcmfbaaGreatDoor

namespace Go.Proofs.YtigideidmcmfbaaGreatDoor
open Go Go.Aw
variable {kr : KR}
theorem yl0 {p q : List Int} (hl : q.length ≤ p.length) (h : NotYet (fun x : Int × Int => !(decide (x.1 = x.2))) (p.zip q) q.length) : p.take q.length = q := by
  apply List.ext_getElem (by simp; omega)
  intro i h1 h2
  have := h i (p[i]'(by omega), q[i]) h2 (by rw [List.getElem?_eq_getElem (by simp; omega)]; simp)
  rw [List.getElem_take]
  simpa using this

set_option maxHeartbeats 1000000 in
theorem yoo (p q : List Int) (hp : p.length ≤ 1000000000) (hq : q.length ≤ 1000000000) : Pur Tryz.prog (GL kr) 33 [.pv (.slice (ipv p)), .pv (.slice (ipv q))] (.pv (.bool (decide (p.take q.length = q)))) := by
 refine yB fun σ hgl => ?_
 refine yk tyOk Tryz.func33 rfl (by simp [Tryz.f33]) ?_
 refine sS ?_
 refine ya (sA (by simp [go_sem, yA] <;> rfl) ?_)
 refine yc (by first | rfl | (simp [go_sem, yA] <;> rfl)) (fun h0 => ?_) (fun h0 => ?_)
 ·have hs : ¬ p.take q.length = q := fun e => by have h1 := congrArg List.length e; have h := h0; simp at h h1; omega
  refine sS ?_
  refine yd (yf (eR ?_))
  exact ⟨by simp [go_sem, hs], by simp [go_sem]⟩
 ·have hlen : q.length ≤ p.length := by have h := h0; simp at h; omega
  refine yg (ya (sS ?_))
  refine yh (yq σ.objs.length σ.toks.length 0 [0, 1, 4] (fun k : Nat => [(5, .pv (.int .i64 ↑k))]) (fun k => σ) (fun k => k ≤ q.length ∧ NotYet (fun x : Int × Int => !(decide (x.1 = x.2))) (p.zip q) k) (fun k => q.length - k) 0 (⟨Nat.zero_le _, .zero⟩) ⟨by simp [go_sem], rfl, by simp, by simp, by simp [go_sem], fun ob h => .inl (by simpa [go_sem, yA] using h), by simp [go_sem]⟩ ?_)
  rintro k ⟨hk, hn⟩
  refine ya (sA (by simp [go_sem, yA] <;> rfl) ?_)
  refine yc (by first | rfl | (simp [go_sem, yA] <;> rfl)) (fun h1 => ?_) (fun h1 => ?_)
  ·have hlt : k < q.length := by simp at h1; omega
   have hw : IntKind.i64.wrap (↑k + 1) = (k : Int) + 1 := yv (by omega)
   obtain ⟨y, hy, hym⟩ := ym hlt
   obtain ⟨x, hx, hxm⟩ := ym (l := p) (k := k) (by omega)
   have hxi : (ipv p)[k]? = some (.int .i64 x) := by unfold ipv; rw [List.getElem?_map, hx]; rfl
   have hyi : (ipv q)[k]? = some (.int .i64 y) := by unfold ipv; rw [List.getElem?_map, hy]; rfl
   have hkl3 : k < (ipv p).length := by rw [yA]; omega
   have hxj : (ipv p)[k] = .int .i64 x := (List.getElem?_eq_some_iff.1 hxi).2
   have hkp : (k : Int) < (p.length : Int) := by omega
   have hkp2 : k < p.length := by omega
   have hxg : p[k] = x := (List.getElem?_eq_some_iff.1 hx).2
   refine yg (ya (yh (ya (yG tyOk tySz 8 (by kernel_rfl) (by decide) ?_))))
   refine yo 8 (by simp [go_sem, yA, hyi, hkp2, hxj] <;> rfl) ?_
   refine yF ?_
   refine aT 1 ?_
   refine ye (yc (by first | rfl | (simp [go_sem, yA, hy, hxi, hyi, hkp, hkp2, hxj] <;> rfl)) (fun h2 => ?_) (fun h2 => ?_))
   ·have hne : x ≠ y := by have h := h2; simp at h; exact h
    have hs : ¬ p.take q.length = q := fun e => by have h1 := congrArg (·[k]?) e; simp only [List.getElem?_take, if_pos hlt, hx, hy] at h1; exact hne (Option.some.inj h1)
    refine sS ?_
    refine yd (yi (yf (yf (yi (yf (eR ?_))))))
    exact ⟨by simp [go_sem, hs], by simp [go_sem]⟩
   ·have hxe : x = y := by have h := h2; simp at h; exact h
    refine yg (aS ?_)
    exact yx (k + 1) σ.objs.length σ.toks.length 0 (⟨hlt, hn.succ (yj5 hx hy) (by simpa using hxe)⟩) (by omega) ⟨by simp [go_sem], rfl, by simp, by simp, by simp [go_sem, hw], fun ob h => .inl (by simpa [go_sem, yA, hy, hxi, hyi, hkp, hkp2, hxj, hw] using h), by simp [go_sem]⟩
  ·have hke : k = q.length := by simp at h1; omega
   subst hke
   have hab := yl0 hlen hn
   refine yp (yj (yj (yl (sS ?_))))
   refine yd (eR ?_)
   exact ⟨by simp [go_sem, hab], by simp [go_sem]⟩

set_option maxHeartbeats 1000000 in
theorem yl9 (p q : List Int) (hp : p.length ≤ 1000000000) (hq : q.length ≤ 1000000000) : Pur Tryz.prog (GL kr) 26 [.pv (.slice (ipv p)), .pv (.slice (ipv q))] (.pv (.bool (decide (p = q)))) := by
 refine yB fun σ hgl => ?_
 refine yk tyOk Tryz.func26 rfl (by simp [Tryz.f26]) ?_
 refine sS ?_
 refine sG ?_
 refine aL 6 (by simp [go_sem, yA] <;> rfl) ?_
 refine yn 10 (by first | rfl | (simp [go_sem, yA] <;> rfl)) (fun h0 => ?_) (fun h0 => ?_)
 ·have hlen : p.length = q.length := by have h := h0; simp at h; omega
  have hpq : decide (p.take q.length = q) = decide (p = q) := by rw [← hlen, List.take_length]
  refine aLG 2 10 true (by simp [go_sem] <;> rfl) ?_
  refine yY 10 true true (by simp [go_sem]) rfl (by simp [go_sem]) rfl rfl (by simp [go_sem] <;> rfl) yrU ((yoo p q hp hq) _ (by exact hgl)) (by simp [go_sem] <;> rfl) (by simp [go_sem]) rfl rfl ?_
  refine aL 2 (by simp [go_sem, hpq] <;> rfl) ?_
  refine ye (yd (eR ?_))
  exact ⟨by simp [go_sem], by simp [go_sem]⟩
 ·have hs : decide (p = q) = false := by rw [decide_eq_false_iff_not]; intro e; subst e; have h := h0; simp at h
  refine aK 3 10 true ?_
  refine aT 2 ?_
  refine ye (yd (eR ?_))
  exact ⟨by simp [go_sem, hs], by simp [go_sem]⟩

end Go.Proofs.YtigideidmcmfbaaGreatDoor

namespace Go.Proofs.YtigideidmcmfbaaGreatDoor
open Go Go.Aw
variable {kr : KR}
def ebB (b : List Int × Int) : PV := .agg [.slice (ipv b.1), .int .i64 b.2]
@[go_sem] theorem ytc (b : List Int × Int) : ebB b = .agg [.slice (ipv b.1), .int .i64 b.2] := rfl

set_option maxHeartbeats 1000000 in
theorem ypx (l : List (ByteArray × (List Int × Int))) (x : ByteArray) : Pur Tryz.prog (GL kr) 100 [.pv ((yH ebB) l), .pv (.str x)] (.tuple [.pv (((zl l x).map ebB).getD (.agg [.slice [], .int .i64 0])), .pv (.bool (zl l x).isSome)]) := by
 have h0l : yH ebB l = yH ebB (l.drop 0) := rfl
 refine yB fun σ hgl => ?_
 refine yk tyOk Tryz.func100 rfl (by simp [Tryz.f100]) ?_
 refine sS ?_
 refine ya (yh (yq σ.objs.length σ.toks.length 1 [1, 4, 5] (fun k : Nat => [(0, .pv ((yH ebB) (l.drop k)))]) (fun k => σ) (fun k => k ≤ l.length ∧ NotYet (fun y : ByteArray × (List Int × Int) => decide (y.1 = x)) l k) (fun k => l.length - k) 0 (⟨Nat.zero_le _, .zero⟩) ⟨by simp [go_sem, List.drop_zero], rfl, by simp, by simp, by simp [go_sem, List.drop_zero], fun ob h => .inl (by simpa [go_sem, List.drop_zero] using h), by simp [go_sem]⟩ ?_))
 rintro k ⟨hk, hn⟩
 refine ya (sG ?_)
 refine aT 1 ?_
 refine ycR tyOk (decide (k < l.length)) rfl rfl rfl rfl (ydZ ebB l k) rfl rfl ?_
 refine ye (aC (fun h0 => ?_) (fun h0 => ?_))
 ·have hlt : k < l.length := by simpa using h0
  obtain ⟨y, hy, hym⟩ := ym hlt
  have hyc := ybA ebB hy
  simp only [ebB, PV.cells, List.cons_append, List.nil_append] at hyc
  refine yg (ya (yh (sA (by simp [go_sem, hyc] <;> rfl) ?_)))
  refine yc (by first | rfl | (simp [go_sem, hyc] <;> rfl)) (fun h1 => ?_) (fun h1 => ?_)
  ·refine ya (aS ?_)
   refine yd (yi (yf (yf (yi (yf ?_)))))
   have hM := ydN hn hy h1
   refine eR ?_
   exact ⟨by rw [hM]; simp [go_sem], by simp [go_sem]⟩
  ·refine yg (aS ?_)
   exact yx (k + 1) σ.objs.length σ.toks.length 1 (⟨hlt, hn.succ hy h1⟩) (by omega) ⟨by simp [go_sem], rfl, by simp, by simp, by simp [go_sem], fun ob h => .inl (by simpa [go_sem, hyc] using h), by simp [go_sem]⟩
 ·have hke : k = l.length := by simp at h0; omega
  subst hke
  have hany := hn.any
  refine yp (yj (yj (yl (sS ?_))))
  refine sS ?_
  refine yd ?_
  have hM := yeG hany
  refine eR ?_
  exact ⟨by rw [hM]; simp [go_sem], by simp [go_sem]⟩

set_option maxHeartbeats 1000000 in
theorem yaH (l : List (ByteArray × (List Int × Int))) (ns : List ByteArray) (bs : List (List Int × Int)) (hb : bs.length = ns.length) (hn : ns.length ≤ 1000000000) : Pur Tryz.prog (GL kr) 102 [.pv ((yH ebB) l), .pv (.slice (ns.map .str)), .pv (.slice (bs.map ebB))] (.pv ((yH ebB) (yw l ns bs))) := by
 refine yB fun σ hgl => ?_
 refine yk tyOk Tryz.func102 rfl (by simp [Tryz.f102]) ?_
 refine sS ?_
 refine ya (sS ?_)
 refine yh (yq σ.objs.length σ.toks.length 0 [2, 6, 9, 10] (fun k : Nat => [(0, .pv (yH ebB (yw l (ns.take k) (bs.take k)))), (11, .pv (.int .i64 ↑k))]) (fun k => σ) (fun k => k ≤ ns.length) (fun k => ns.length - k) 0 (Nat.zero_le _) ⟨by simp [go_sem, List.take_zero, yw, List.zip_nil_right, List.reverse_nil, List.nil_append], rfl, by simp, by simp, by simp [go_sem, List.take_zero, yw, List.zip_nil_right, List.reverse_nil, List.nil_append], fun ob h => .inl (by simpa [go_sem, List.take_zero, yw, List.zip_nil_left, List.zip_nil_right, List.reverse_nil, List.nil_append] using h), by simp [go_sem]⟩ ?_)
 intro k hk
 refine sS ?_
 refine ya (aC (fun h0 => ?_) (fun h0 => ?_))
 ·have hlt : k < ns.length := by simp at h0; omega
  have hw : IntKind.i64.wrap (↑k + 1) = (k : Int) + 1 := yv (by omega)
  obtain ⟨x, hx, hxm⟩ := ym hlt
  obtain ⟨b, hbk, hbm⟩ := ym (l := bs) (k := k) (by omega)
  have hnx : PV.ptr [.str x, .slice (ipv b.1), .int .i64 b.2, yH ebB (yw l (ns.take k) (bs.take k))] = yH ebB (yw l (ns.take (k + 1)) (bs.take (k + 1))) := ygn ebB hx hbk
  refine yg (ya (yh (sA (by simp [go_sem, hx] <;> rfl) ?_)))
  refine yD (sh := [23]) tyOk (by simp [go_sem, hbk] <;> rfl) ?_
  have hob : (⟨σ.gl, σ.objs ++ [.box (([.str x, .slice (ipv b.1), .int .i64 b.2, yH ebB (yw l (ns.take k) (bs.take k))] : List PV).map .pv)], σ.toks⟩ : Store).objs[σ.objs.length]? = some (.box (([.str x, .slice (ipv b.1), .int .i64 b.2, yH ebB (yw l (ns.take k) (bs.take k))] : List PV).map .pv)) := by simp
  refine ybi 0 [2, 6, 9, 10, 11] σ (ob := σ.objs.length) (ps := [.str x, .slice (ipv b.1), .int .i64 b.2, yH ebB (yw l (ns.take k) (bs.take k))]) (by simp [go_sem]) (by simp [go_sem]) (by simp [go_sem]) (Nat.le_refl _) (Nat.le_refl _) (by simp [go_sem]) (fun ob h => .inl h) (by simp [go_sem]) ?_
  rw [hnx]
  refine aS ?_
  exact yx (k + 1) σ.objs.length σ.toks.length 0 (hlt) (by omega) ⟨by simp [go_sem], rfl, by simp, by simp, by simp [go_sem, hw], fun ob h => .inl (by simpa [go_sem, hx, hbk, hw] using h), by simp [go_sem]⟩
 ·have hke : k = ns.length := by simp at h0; omega
  subst hke
  have hall := List.take_of_length_le (l := bs) (i := ns.length) (by omega)
  refine yp (yj (yj (yl (sA (by simp [go_sem, hall] <;> rfl) ?_))))
  refine yd (eR ?_)
  exact ⟨by simp [go_sem], by simp [go_sem]⟩

set_option maxHeartbeats 4000000 in
theorem ymq {S : Type} {U : S → List (Nat × AObj)} {ks : List Nat} {X : List (Nat × AObj)} {ow : Nat} {nf : FuncId} {nc : List AV} {vf : FuncId} {vc : List AV} {nam : D → List Int → List ByteArray → Int → S → List (List Int × Int) × S} {vari : D → List Int → Option (List Int × Int) → S → S} {Ok : D → List Int → Prop} {Good : Nat → S → Prop} (H : WkH Tryz.prog (GL kr) ebB (.agg [.slice [], .int .i64 0]) U ks X ow nf nc vf vc nam vari Ok Good) (d : D) : ∀ (hd : d.size ≤ 100000000) (p : List Int) (hp : p.length + 3 * d.size ≤ 400000000) (sc : List (ByteArray × (List Int × Int))) (m : Nat) (hm : m + ncnt d ≤ 1000000000) (s : S) (σ : Store) (hgl : σ.gl = (GL kr)) (ho : Ok d p) (hg : Good m s) (hU : HasU σ (U s)) (hXU : HasU σ X), ACalls Tryz.prog 62 [.ptr ow 0, .pv (enc d), .pv (wPV p), .pv ((yH ebB) sc)] σ (fun r σ' => r = .tuple [] ∧ σ' = updS σ (U (wk nam vari d p sc s))) := by
 induction d using D.indS with
 | _ d ih =>
 intro hd p hp sc m hm s σ hgl ho hg hU hXU
 have hwk : σ.objs[ow]? = some (.box [.func (.func nf) nc, .func (.func vf) vc]) := hXU _ H.hw
 have hwl := (List.getElem?_eq_some_iff.1 hwk).1
 have how : ow ∉ ks := H.hX _ H.hw
 have hkl2 : ∀ i, σ.objs.length ≤ i → i ∉ ks := fun i hi hm => by have := H.lt hU hm; omega
 have hAw : ∀ B, (σ.objs ++ B)[ow]? = some (.box [.func (.func nf) nc, .func (.func vf) vc]) := fun B => by rw [List.getElem?_append_left hwl]; exact hwk
 have hsw : ∀ (Y : Store) (s : S), (updS Y (U s)).objs[ow]? = Y.objs[ow]? := fun Y s => H.ne how
 have hmw : ∀ L, (YP ks L)[ow]? = L[ow]? := fun L => Yp how
 have hs0 : ∀ (Y : Store) (s : S), (updS Y (U s)).objs[σ.objs.length]? = Y.objs[σ.objs.length]? := fun Y s => H.ne (hkl2 _ (by omega))
 have hs1 : ∀ (Y : Store) (s : S), (updS Y (U s)).objs[σ.objs.length + 1]? = Y.objs[σ.objs.length + 1]? := fun Y s => H.ne (hkl2 _ (by omega))
 have hs2 : ∀ (Y : Store) (s : S), (updS Y (U s)).objs[σ.objs.length + 2]? = Y.objs[σ.objs.length + 2]? := fun Y s => H.ne (hkl2 _ (by omega))
 have hs4 : ∀ (Y : Store) (s : S), (updS Y (U s)).objs[σ.objs.length + 4]? = Y.objs[σ.objs.length + 4]? := fun Y s => H.ne (hkl2 _ (by omega))
 have hm0 : ∀ L, (YP ks L)[σ.objs.length]? = L[σ.objs.length]? := fun L => Yp (hkl2 _ (by omega))
 have hm1 : ∀ L, (YP ks L)[σ.objs.length + 1]? = L[σ.objs.length + 1]? := fun L => Yp (hkl2 _ (by omega))
 have hm2 : ∀ L, (YP ks L)[σ.objs.length + 2]? = L[σ.objs.length + 2]? := fun L => Yp (hkl2 _ (by omega))
 have hm4 : ∀ L, (YP ks L)[σ.objs.length + 4]? = L[σ.objs.length + 4]? := fun L => Yp (hkl2 _ (by omega))
 have hss : ∀ (Y : Store) (s s2 : S), updS (updS Y (U s)) (U s2) = updS Y (U s2) := fun Y s s2 => H.upd
 have hwc := yar p
 have hkl := D.kids_length_lt d
 have hsl := yZ d
 have hon := yau d
 have hUa : ∀ B, HasU ⟨σ.gl, σ.objs ++ B, σ.toks⟩ (U s) := fun B => hU.app B _
 have hXa : ∀ B, HasU ⟨σ.gl, σ.objs ++ B, σ.toks⟩ X := fun B => hXU.app B _
 have hcut : ∀ (s2 : S) B tk, tk.take σ.toks.length = σ.toks → (updS ⟨σ.gl, σ.objs ++ B, tk⟩ (U s2)).cut σ.objs.length σ.toks.length = updS σ (U s2) := fun s2 B tk htk => ZF (fun q hq => H.ltU hU hq) htk
 refine yiX (H.hcl _ _ _ fun i hi => H.lt hU hi) rfl (by simp [go_sem]) ?_
 refine yk tyOk Tryz.func62 rfl (by simp [Tryz.f62]) ?_
 refine ya (yD (sh := [4, 6, 7]) tyOk (by simp [go_sem, hwc] <;> rfl) ?_)
 refine sG ?_
 refine aT 1 ?_
 refine aG yaJ ((yaI d (by omega)) _ (by exact hgl)) ?_
 refine ye (yh (sS ?_))
 refine yc (by first | rfl | (simp [go_sem, hAw, hsw, hs0, hs1, hs2, hs4, hm0, hm1, hm2, hm4, hmw, yE, hss, hwc, y6] <;> rfl)) (fun h0 => ?_) (fun h0 => ?_)
 ·have hk : yb d = 2 := by simpa using h0
  have hfin := yco nam vari (p := p) (sc := sc) (s := s) hk
  obtain ⟨zp, zi, hzb⟩ : ∃ zp zi, ((zl sc d.text).map ebB).getD (.agg [.slice [], .int .i64 0]) = .agg [.slice zp, .int .i64 zi] := by cases zl sc d.text <;> exact ⟨_, _, rfl⟩
  refine sG ?_
  refine aT 3 ?_
  refine aG ypQ ((ypx sc d.text) _ (by exact hgl)) ?_
  refine aL 6 (by simp [go_sem, hzb] <;> rfl) ?_
  refine ye (yG tyOk tySz 8 (by kernel_rfl) (by decide) ?_)
  refine yo 8 (by simp [go_sem, hAw] <;> rfl) ?_
  refine yF ?_
  refine yy rfl rfl rfl (by simp [go_sem] <;> rfl) H.cv (H.hv d p (zl sc d.text) _ s _ (by omega) (by omega) ho hg hk (by exact hgl) (hUa _) (hXa _)) (by simp [go_sem] <;> rfl) (by simp [go_sem, hzb]) (by simp [go_sem, H.nlv]) rfl ?_
  rintro r σ' ⟨rfl, rfl⟩
  refine ye ?_
  first | (show Go.Aw.Ends ty _ _ Go.Exit.normal _) | (simp only [yu]; done) | simp only [yu] | unfold yu
  refine yz (by first | rfl | (simp [go_sem] <;> rfl)) (by first | rfl | simp [go_sem]) ?_
  exact ⟨rfl, by rw [hfin]; first | exact hcut _ _ _ (by simp) | (show Store.cut (updS (updS _ _) _) _ _ = _; rw [hss]; exact hcut _ _ _ (by simp))⟩
 ·have hk2 : yb d ≠ 2 := by simpa using h0
  refine ya (sS ?_)
  refine yc (by first | rfl | (simp [go_sem, hAw, hsw, hs0, hs1, hs2, hs4, hm0, hm1, hm2, hm4, hmw, yE, hss, hwc, y6] <;> rfl)) (fun h1 => ?_) (fun h1 => ?_)
  ·have hk : yb d = 5 ∨ yb d = 9 := by first | exact .inl (by simpa using h1) | exact .inr (by simpa using h1)
   have hlen := hsl.1 (by omega)
   obtain ⟨x2, hx2, hx2m⟩ := ym (l := d.kids) (k := 2) (by omega)
   have hd2 : d2 d.kids = x2 := yC hx2
   have hxs := D.size_kid_lt hx2m
   have hq : subs d = [subL d 2 x2] := by rw [← hd2]; exact yU hk
   have hfin := ycC nam vari (p := p) (sc := sc) (s := s) hk
   have hnc := ycq hk
   rw [hd2] at hfin hnc
   have hqm : subL d 2 x2 ∈ subs d := by rw [hq]; simp
   have ihx := ih (subL d 2 x2) hqm
   simp only [subL] at ihx
   refine yg (yc (b := true) (by simp [go_sem, h1]) (fun h => ?_) (fun h => ?_))
   rotate_left
   ·cases h
   refine sG ?_
   refine aT 1 ?_
   refine aG Yj ((YO d (by omega)) _ (by exact hgl)) ?_
   refine aT 1 ?_
   refine ye (YW tyOk tySz ks 19 (by kernel_rfl) (by decide) ?_)
   refine yo 7 (by simp [go_sem, hm0, hm1, hx2] <;> rfl) ?_
   refine Y8 (by intro o ob ho2 hb2; first | exact (zD ho2 hb2).2 | exact H.mask ho2 hb2) rfl rfl rfl rfl (by simp [go_sem] <;> rfl) y8 ((y7 p [2] (by omega) (by simp) (by simp)) _ (by exact hgl)) (by simp [go_sem] <;> rfl) (by simp [go_sem, ipv]) rfl rfl ?_
   refine yo 9 (by simp [go_sem, hAw, hm0, hm1, hm2, hmw] <;> rfl) ?_
   refine YK (by rintro _ _ ⟨_, rfl⟩ o ob ho2 hb2; exact H.mask ho2 hb2) rfl rfl rfl rfl (by simp [go_sem] <;> rfl) H.cn (H.hn d p (ownS d) (0) _ (s) _ (by omega) (by omega) ho hg (by omega) (.own (by omega)) (by exact hgl) (hUa _) (hXa _)) (by simp [go_sem] <;> rfl) (by simp [go_sem]) (by simp [go_sem, H.nln]) rfl ⟨_, _, rfl, rfl⟩ ?_
   rintro r σ' ⟨rfl, rfl⟩
   refine Y8 (by intro o ob ho2 hb2; first | exact (zD ho2 hb2).2 | exact H.mask ho2 hb2) rfl rfl rfl rfl (by simp [go_sem] <;> rfl) ybW ((yaH (sc) (ownS d) ((nam d p (ownS d) 0 s).1) (H.gl _ _ _ _ _) (by omega)) _ (by exact hgl)) (by simp [go_sem] <;> rfl) (by simp [go_sem]) rfl rfl ?_
   refine yF ?_
   refine yy rfl rfl rfl (by simp [go_sem] <;> rfl) yaP (ihx (by show x2.size ≤ _; omega) (p ++ [2]) (by show _ + 3 * x2.size ≤ _; simp; omega) (yw sc (ownS d) (nam d p (ownS d) 0 s).1) _ (by omega) ((nam d p (ownS d) 0 s).2) _ (by exact hgl) (H.hOk _ _ _ ho hqm) ((H.gn _ _ _ _ _ _ ho hg (.own (by omega)))) (H.has (hUa _)) (H.hasX (hXa _))) (by simp [go_sem] <;> rfl) (by simp [go_sem]) rfl rfl ?_
   rintro r σ' ⟨rfl, rfl⟩
   refine ye ?_
   first | (show Go.Aw.Ends ty _ _ Go.Exit.normal _) | (simp only [yu]; done) | simp only [yu] | unfold yu
   refine yz (by first | rfl | (simp [go_sem] <;> rfl)) (by first | rfl | simp [go_sem]) ?_
   exact ⟨rfl, by rw [hfin]; first | exact hcut _ _ _ (by simp) | (show Store.cut (updS (updS _ _) _) _ _ = _; rw [hss]; exact hcut _ _ _ (by simp))⟩
  ·refine aS ?_
   refine yc (by first | rfl | (simp [go_sem, hAw, hsw, hs0, hs1, hs2, hs4, hm0, hm1, hm2, hm4, hmw, yE, hss, hwc, y6] <;> rfl)) (fun h2 => ?_) (fun h2 => ?_)
   ·have hk : yb d = 5 ∨ yb d = 9 := by first | exact .inl (by simpa using h2) | exact .inr (by simpa using h2)
    have hlen := hsl.1 (by omega)
    obtain ⟨x2, hx2, hx2m⟩ := ym (l := d.kids) (k := 2) (by omega)
    have hd2 : d2 d.kids = x2 := yC hx2
    have hxs := D.size_kid_lt hx2m
    have hq : subs d = [subL d 2 x2] := by rw [← hd2]; exact yU hk
    have hfin := ycC nam vari (p := p) (sc := sc) (s := s) hk
    have hnc := ycq hk
    rw [hd2] at hfin hnc
    have hqm : subL d 2 x2 ∈ subs d := by rw [hq]; simp
    have ihx := ih (subL d 2 x2) hqm
    simp only [subL] at ihx
    refine sG ?_
    refine aT 1 ?_
    refine aG Yj ((YO d (by omega)) _ (by exact hgl)) ?_
    refine aT 1 ?_
    refine ye (YW tyOk tySz ks 19 (by kernel_rfl) (by decide) ?_)
    refine yo 7 (by simp [go_sem, hm0, hm1, hx2] <;> rfl) ?_
    refine Y8 (by intro o ob ho2 hb2; first | exact (zD ho2 hb2).2 | exact H.mask ho2 hb2) rfl rfl rfl rfl (by simp [go_sem] <;> rfl) y8 ((y7 p [2] (by omega) (by simp) (by simp)) _ (by exact hgl)) (by simp [go_sem] <;> rfl) (by simp [go_sem, ipv]) rfl rfl ?_
    refine yo 9 (by simp [go_sem, hAw, hm0, hm1, hm2, hmw] <;> rfl) ?_
    refine YK (by rintro _ _ ⟨_, rfl⟩ o ob ho2 hb2; exact H.mask ho2 hb2) rfl rfl rfl rfl (by simp [go_sem] <;> rfl) H.cn (H.hn d p (ownS d) (0) _ (s) _ (by omega) (by omega) ho hg (by omega) (.own (by omega)) (by exact hgl) (hUa _) (hXa _)) (by simp [go_sem] <;> rfl) (by simp [go_sem]) (by simp [go_sem, H.nln]) rfl ⟨_, _, rfl, rfl⟩ ?_
    rintro r σ' ⟨rfl, rfl⟩
    refine Y8 (by intro o ob ho2 hb2; first | exact (zD ho2 hb2).2 | exact H.mask ho2 hb2) rfl rfl rfl rfl (by simp [go_sem] <;> rfl) ybW ((yaH (sc) (ownS d) ((nam d p (ownS d) 0 s).1) (H.gl _ _ _ _ _) (by omega)) _ (by exact hgl)) (by simp [go_sem] <;> rfl) (by simp [go_sem]) rfl rfl ?_
    refine yF ?_
    refine yy rfl rfl rfl (by simp [go_sem] <;> rfl) yaP (ihx (by show x2.size ≤ _; omega) (p ++ [2]) (by show _ + 3 * x2.size ≤ _; simp; omega) (yw sc (ownS d) (nam d p (ownS d) 0 s).1) _ (by omega) ((nam d p (ownS d) 0 s).2) _ (by exact hgl) (H.hOk _ _ _ ho hqm) ((H.gn _ _ _ _ _ _ ho hg (.own (by omega)))) (H.has (hUa _)) (H.hasX (hXa _))) (by simp [go_sem] <;> rfl) (by simp [go_sem]) rfl rfl ?_
    rintro r σ' ⟨rfl, rfl⟩
    refine ye ?_
    first | (show Go.Aw.Ends ty _ _ Go.Exit.normal _) | (simp only [yu]; done) | simp only [yu] | unfold yu
    refine yz (by first | rfl | (simp [go_sem] <;> rfl)) (by first | rfl | simp [go_sem]) ?_
    exact ⟨rfl, by rw [hfin]; first | exact hcut _ _ _ (by simp) | (show Store.cut (updS (updS _ _) _) _ _ = _; rw [hss]; exact hcut _ _ _ (by simp))⟩
   ·refine ya (aS ?_)
    refine yc (by first | rfl | (simp [go_sem, hAw, hsw, hs0, hs1, hs2, hs4, hm0, hm1, hm2, hm4, hmw, yE, hss, hwc, y6] <;> rfl)) (fun h3 => ?_) (fun h3 => ?_)
    ·have hk : yb d = 6 := by simpa using h3
     have hlen := hsl.2.1 hk
     obtain ⟨x2, hx2, hx2m⟩ := ym (l := d.kids) (k := 2) (by omega)
     have hd2 : d2 d.kids = x2 := yC hx2
     have hxs := D.size_kid_lt hx2m
     obtain ⟨x3, hx3, hx3m⟩ := ym (l := d.kids) (k := 3) (by omega)
     have hd3 : d.kids.getD 3 dnone = x3 := yC hx3
     have hxt := D.size_kid_lt hx3m
     have hq : subs d = [(⟨[2], []⟩, x2), subL d 3 x3] := by rw [← hd2, ← hd3]; exact yM hk
     have hfin := ydU nam vari (p := p) (sc := sc) (s := s) hk
     have hnc := yff hk
     rw [hd2, hd3] at hfin hnc
     have hqm : (⟨[2], []⟩, x2) ∈ subs d := by rw [hq]; simp
     have hqm3 : subL d 3 x3 ∈ subs d := by rw [hq]; simp
     have ihx := ih (⟨[2], []⟩, x2) hqm
     have ihy := ih (subL d 3 x3) hqm3
     simp only [subL] at ihx ihy
     have hg1 := H.gn _ _ _ _ _ _ ho hg (.own (.inr (.inr (.inl hk))))
     refine sG ?_
     refine aT 1 ?_
     refine aG Yj ((YO d (by omega)) _ (by exact hgl)) ?_
     refine aT 1 ?_
     refine ye (ya (yG tyOk tySz 7 (by kernel_rfl) (by decide) ?_))
     refine yo 7 (by simp [go_sem, hAw] <;> rfl) ?_
     refine yF ?_
     refine yy rfl rfl rfl (by simp [go_sem] <;> rfl) H.cn (H.hn d p (ownS d) (0) _ (s) _ (by omega) (by omega) ho hg (by omega) (.own (by omega)) (by exact hgl) (hUa _) (hXa _)) (by simp [go_sem] <;> rfl) (by simp [go_sem]) (by simp [go_sem, H.nln]) rfl ?_
     rintro r σ' ⟨rfl, rfl⟩
     refine aT 1 ?_
     refine ye (ya (yG tyOk tySz 9 (by kernel_rfl) (by decide) ?_))
     refine yo 7 (by simp [go_sem, hs0, hs1, yE, hx2] <;> rfl) ?_
     refine yQ (by first | (intro _ _ hh; exact hh) | simp [go_sem, hss]) rfl rfl rfl rfl (by simp [go_sem] <;> rfl) y8 ((y7 p [2] (by omega) (by simp) (by simp)) _ (by exact hgl)) (by simp [go_sem, yE] <;> rfl) (by simp [go_sem, ipv]) rfl rfl ?_
     refine yo 1 (by simp [go_sem, hs2, yE] <;> rfl) ?_
     refine yF ?_
     refine yy rfl rfl rfl (by simp [go_sem] <;> rfl) yaP (ihx (by show x2.size ≤ _; omega) (p ++ [2]) (by show _ + 3 * x2.size ≤ _; simp; omega) (sc) _ (by omega) ((nam d p (ownS d) 0 s).2) _ (by exact hgl) (H.hOk _ _ _ ho hqm) (hg1) (H.has (hUa _)) (H.hasX (hXa _))) (by simp [go_sem] <;> rfl) (by simp [go_sem]) rfl rfl ?_
     rintro r σ' ⟨rfl, rfl⟩
     refine ye (yG tyOk tySz 12 (by kernel_rfl) (by decide) ?_)
     refine yo 7 (by simp [go_sem, hs0, hs1, yE, hss, hx3] <;> rfl) ?_
     refine yQ (by first | (intro _ _ hh; exact hh) | simp [go_sem, hss]) rfl rfl rfl rfl (by simp [go_sem] <;> rfl) y8 ((y7 p [3] (by omega) (by simp) (by simp)) _ (by exact hgl)) (by simp [go_sem, yE, hss] <;> rfl) (by simp [go_sem, ipv]) rfl rfl ?_
     refine yo 3 (by simp [go_sem, hs2, yE, hss] <;> rfl) ?_
     refine yQ (by first | (intro _ _ hh; exact hh) | simp [go_sem, hss]) rfl rfl rfl rfl (by simp [go_sem] <;> rfl) ybW ((yaH (sc) (ownS d) ((nam d p (ownS d) 0 s).1) (H.gl _ _ _ _ _) (by omega)) _ (by exact hgl)) (by simp [go_sem, yE, hss] <;> rfl) (by simp [go_sem]) rfl rfl ?_
     refine yF ?_
     refine yy rfl rfl rfl (by simp [go_sem] <;> rfl) yaP (ihy (by show x3.size ≤ _; omega) (p ++ [3]) (by show _ + 3 * x3.size ≤ _; simp; omega) (yw sc (ownS d) (nam d p (ownS d) 0 s).1) _ (by omega) (wk nam vari x2 (p ++ [2]) sc (nam d p (ownS d) 0 s).2) _ (by exact hgl) (H.hOk _ _ _ ho hqm3) (H.good _ _ _ _ _ (H.hOk _ _ _ ho hqm) hg1) (H.has (hUa _)) (H.hasX (hXa _))) (by simp [go_sem] <;> rfl) (by simp [go_sem]) rfl rfl ?_
     rintro r σ' ⟨rfl, rfl⟩
     refine ye ?_
     first | (show Go.Aw.Ends ty _ _ Go.Exit.normal _) | (simp only [yu]; done) | simp only [yu] | unfold yu
     refine yz (by first | rfl | (simp [go_sem] <;> rfl)) (by first | rfl | simp [go_sem]) ?_
     exact ⟨rfl, by rw [hfin]; first | exact hcut _ _ _ (by simp) | (show Store.cut (updS (updS _ _) _) _ _ = _; rw [hss]; exact hcut _ _ _ (by simp))⟩
    ·refine ya (aS ?_)
     refine yc (by first | rfl | (simp [go_sem, hAw, hsw, hs0, hs1, hs2, hs4, hm0, hm1, hm2, hm4, hmw, yE, hss, hwc, y6] <;> rfl)) (fun h4 => ?_) (fun h4 => ?_)
     ·have hk : yb d = 7 := by simpa using h4
      have hlen := hsl.1 (by omega)
      obtain ⟨x2, hx2, hx2m⟩ := ym (l := d.kids) (k := 2) (by omega)
      have hd2 : d2 d.kids = x2 := yC hx2
      have hxs := D.size_kid_lt hx2m
      obtain ⟨x1, hx1, hx1m⟩ := ym (l := d.kids) (k := 1) (by omega)
      have hd1 : d1 d.kids = x1 := yC hx1
      have hx1s := D.size_kid_lt hx1m
      have hx1l := D.kids_length_lt x1
      have hrk := hsl.2.2 hk
      have hrl := zR hk
      have hra := fun (i : Nat) (x : D) => zB (d := d) (i := i) (x := x) hk
      have hfr := Y3 x1.kids
      have hszk := D.size_kids x1
      rw [hd1, hd2] at hrl
      rw [hd1] at hra hrk
      have hfin := ydW nam vari (p := p) (sc := sc) (s := s) hk
      have hnc := yfc hk
      have hncm := yiL d
      have hncx := fun (k : Nat) (x : D) => yc4 (d := d) (k := k) (x := x)
      rw [hd1, hd2] at hfin
      rw [hd1, hd2] at hnc
      rw [hd1] at hncm hncx
      have ihx := ih (subL d 2 x2) (List.mem_of_getElem? hrl.1)
      simp only [subL] at ihx
      have hg1 := H.gn _ _ _ _ _ _ ho hg (.own (.inr (.inr (.inr hk))))
      have hol : (ownS d).length = x1.kids.length := by unfold ownS; rw [hk, hd1]; simp
      refine sG ?_
      refine aT 1 ?_
      refine aG Yj ((YO d (by omega)) _ (by exact hgl)) ?_
      refine aT 1 ?_
      refine ye (ya (YW tyOk tySz ks 10 (by kernel_rfl) (by decide) ?_))
      refine yo 9 (by simp [go_sem, hAw, hm0, hm1, hm2, hmw] <;> rfl) ?_
      refine YK (by rintro _ _ ⟨_, rfl⟩ o ob ho2 hb2; exact H.mask ho2 hb2) rfl rfl rfl rfl (by simp [go_sem] <;> rfl) H.cn (H.hn d p (ownS d) (0) _ (s) _ (by omega) (by omega) ho hg (by omega) (.own (by omega)) (by exact hgl) (hUa _) (hXa _)) (by simp [go_sem] <;> rfl) (by simp [go_sem]) (by simp [go_sem, H.nln]) rfl ⟨_, _, rfl, rfl⟩ ?_
      rintro r σ' ⟨rfl, rfl⟩
      refine yF ?_
      refine aG ybW ((yaH (sc) (ownS d) ((nam d p (ownS d) 0 s).1) (H.gl _ _ _ _ _) (by omega)) _ (by exact hgl)) ?_
      refine aT 1 ?_
      refine ye (sS ?_)
      refine ya (sA (by simp [go_sem, hx1] <;> rfl) ?_)
      refine yh (yN 1 [4, 5, 6, 7, 14, 133, 134] (fun i : Nat => [(15, .pv (.int .i64 (yR x1.kids i))), (135, .pv (.int .i64 (i : Int)))]) (fun i => updS (⟨σ.gl, σ.objs ++ [.box [.ptr ow 0], .box [.pv (wPV p)], .box [.pv ((yH ebB) sc)]], σ.toks⟩ : Store) (U (wkd nam vari d p (yw sc (ownS d) (nam d p (ownS d) 0 s).1) i (nam d p (ownS d) 0 s).2))) (fun i => i ≤ x1.kids.length) (fun i => x1.kids.length - i) 0 (Nat.zero_le _) ⟨rfl, rfl, by simp [go_sem, yaV, hol], by simp [go_sem]⟩ ?_)
      intro i hi
      refine sS ?_
      refine ya (yc (by first | rfl | (simp [go_sem, hAw, hsw, hs0, hs1, hs2, hs4, hm0, hm1, hm2, hm4, hmw, yE, hss, hwc, y6, hx1, hx2] <;> rfl)) (fun h5 => ?_) (fun h5 => ?_))
      ·have hlt : i < x1.kids.length := by simp at h5; omega
       obtain ⟨x, hx, hxm⟩ := ym hlt
       have hl3 := hrk x hxm
       obtain ⟨y1, hy1, hy1m⟩ := ym (l := x.kids) (k := 1) (by omega)
       obtain ⟨y2, hy2, hy2m⟩ := ym (l := x.kids) (k := 2) (by omega)
       have hyd1 : d1 x.kids = y1 := yC hy1
       have hyd2 : d2 x.kids = y2 := yC hy2
       have hz0 := D.size_kid_lt hxm
       have hz1 := D.size_kid_lt hy1m
       have hz2 := D.size_kid_lt hy2m
       have hz3 := D.kids_length_lt y1
       have hpx : parS x = y1.kids.map D.text := by unfold parS; rw [hyd1]
       have hpl : (parS x).length = y1.kids.length := by rw [hpx, List.length_map]
       have hqi := hra i x hx
       have ihi := ih (subR d i x) (List.mem_of_getElem? hqi)
       simp only [subR, hyd2] at ihi
       have hf1 := Z2 hx
       have hnc1 := hncx i x hx
       have hnc2 := hncm (i + 1)
       rw [hyd2] at hnc1
       have hf2 := hfr i (by omega)
       have hf3 := hfr (i + 1) (by omega)
       have hw2 : IntKind.i64.wrap (yR x1.kids i + ((parS x).length : Int)) = yR x1.kids (i + 1) := by rw [hf1]; exact yO (by omega) (by omega)
       have hgi := H.goodD (inn := yw sc (ownS d) (nam d p (ownS d) 0 s).1) hk ho hg1 i (by rw [hd1]; omega)
       have hnx := yaj nam vari (p := p) (inn := yw sc (ownS d) (nam d p (ownS d) 0 s).1) (s := (nam d p (ownS d) 0 s).2) (by rw [hd1]; exact hx)
       rw [hd1, hyd2] at hnx
       have hgi2 := H.gn _ _ _ _ _ _ ho hgi (.par hk (by rw [hd1]; exact hx))
       rw [hd1] at hgi2
       have hw : IntKind.i64.wrap ((i : Int) + 1) = (i : Int) + 1 := yv (by omega)
       refine yg (ya (yh (sA (by simp [go_sem, hx] <;> rfl) ?_)))
       refine sG ?_
       refine aL 5 (by simp [go_sem, hy1] <;> rfl) ?_
       refine aG ZQ ((ZJ y1.kids (by omega)) _ (by exact hgl)) ?_
       refine aL 1 (by simp [go_sem, ← hpx] <;> rfl) ?_
       refine ye (ya (YW tyOk tySz ks 21 (by kernel_rfl) (by decide) ?_))
       refine yo 8 (by simp [go_sem, hs0, hs1, hm0, hm1, yE, hy2] <;> rfl) ?_
       refine Y8 (by intro o ob ho2 hb2; first | exact (zD ho2 hb2).2 | exact H.mask ho2 hb2) rfl rfl rfl rfl (by simp [go_sem] <;> rfl) y8 ((y7 p [1, (i : Int), 2] (by omega) (by simp) (by simp)) _ (by exact hgl)) (by simp [go_sem, yE] <;> rfl) (by simp [go_sem, ipv]) rfl rfl ?_
       refine yo 10 (by simp [go_sem, hAw, hsw, hs0, hs1, hm0, hm1, hmw, yE] <;> rfl) ?_
       refine YK (by rintro _ _ ⟨_, rfl⟩ o ob ho2 hb2; exact H.mask ho2 hb2) rfl rfl rfl rfl (by simp [go_sem, yE] <;> rfl) H.cn (H.hn d p (parS x) (yR x1.kids i) _ (wkd nam vari d p (yw sc (ownS d) (nam d p (ownS d) 0 s).1) i (nam d p (ownS d) 0 s).2) _ (by omega) (by omega) ho hgi (by omega) (by have := NmOk.par hk (by rw [hd1]; exact hx); rw [hd1] at this; exact this) (by exact hgl) (H.has (hUa _)) (H.hasX (hXa _))) (by simp [go_sem, yE] <;> rfl) (by simp [go_sem]) (by simp [go_sem, H.nln]) rfl ⟨_, _, rfl, rfl⟩ ?_
       rintro r σ' ⟨rfl, rfl⟩
       refine Y8 (by intro o ob ho2 hb2; first | exact (zD ho2 hb2).2 | exact H.mask ho2 hb2) rfl rfl rfl rfl (by simp [go_sem] <;> rfl) ybW ((yaH (yw sc (ownS d) (nam d p (ownS d) 0 s).1) (parS x) ((nam d p (parS x) (yR x1.kids i) (wkd nam vari d p (yw sc (ownS d) (nam d p (ownS d) 0 s).1) i (nam d p (ownS d) 0 s).2)).1) (H.gl _ _ _ _ _) (by omega)) _ (by exact hgl)) (by simp [go_sem, yE] <;> rfl) (by simp [go_sem]) rfl rfl ?_
       refine yF ?_
       refine yy rfl rfl rfl (by simp [go_sem] <;> rfl) yaP (ihi (by show y2.size ≤ _; omega) (p ++ [1, (i : Int), 2]) (by show _ + 3 * y2.size ≤ _; simp; omega) (yw (yw sc (ownS d) (nam d p (ownS d) 0 s).1) (parS x) (nam d p (parS x) (yR x1.kids i) (wkd nam vari d p (yw sc (ownS d) (nam d p (ownS d) 0 s).1) i (nam d p (ownS d) 0 s).2)).1) _ (by omega) ((nam d p (parS x) (yR x1.kids i) (wkd nam vari d p (yw sc (ownS d) (nam d p (ownS d) 0 s).1) i (nam d p (ownS d) 0 s).2)).2) _ (by exact hgl) (by have := H.hOk _ _ _ ho (List.mem_of_getElem? hqi); simp only [subR, hyd2] at this; exact this) (hgi2) (H.has (H.has (hUa _))) (H.hasX (H.hasX (hXa _)))) (by simp [go_sem, hss] <;> rfl) (by simp [go_sem]) rfl rfl ?_
       rintro r σ' ⟨rfl, rfl⟩
       refine ye (aR (by simp [go_sem, hss, hw2] <;> rfl) ?_)
       refine aS ?_
       exact ⟨(i + 1), (by show i + 1 ≤ _; omega), (by show x1.kids.length - (i + 1) < x1.kids.length - i; omega), (by show updS _ (U (wkd nam vari d p _ (i + 1) _)) = _; rw [hnx]; first | done | rfl | exact hss _ _ _ | simp [hss]), rfl, by simp [go_sem, hw], by simp [go_sem]⟩
      ·have hke : i = x1.kids.length := by simp at h5; omega
       subst hke
       refine yp (yj (yj (yl (yG tyOk tySz 9 (by kernel_rfl) (by decide) ?_))))
       refine yo 7 (by simp [go_sem, hs0, hs1, yE, hx2] <;> rfl) ?_
       refine yQ (by first | (intro _ _ hh; exact hh) | simp [go_sem, hss]) rfl rfl rfl rfl (by simp [go_sem] <;> rfl) y8 ((y7 p [2] (by omega) (by simp) (by simp)) _ (by exact hgl)) (by simp [go_sem, yE] <;> rfl) (by simp [go_sem, ipv]) rfl rfl ?_
       refine yo 1 (by simp [go_sem, yE] <;> rfl) ?_
       refine yF ?_
       refine yy rfl rfl rfl (by simp [go_sem] <;> rfl) yaP (ihx (by show x2.size ≤ _; omega) (p ++ [2]) (by show _ + 3 * x2.size ≤ _; simp; omega) (yw sc (ownS d) (nam d p (ownS d) 0 s).1) _ (by omega) (wkd nam vari d p (yw sc (ownS d) (nam d p (ownS d) 0 s).1) x1.kids.length (nam d p (ownS d) 0 s).2) _ (by exact hgl) (H.hOk _ _ _ ho (List.mem_of_getElem? hrl.1)) (H.goodD hk ho hg1 _ (by rw [hd1]; exact Nat.le_refl _)) (H.has (hUa _)) (H.hasX (hXa _))) (by simp [go_sem] <;> rfl) (by simp [go_sem]) rfl rfl ?_
       rintro r σ' ⟨rfl, rfl⟩
       refine ye ?_
       first | (show Go.Aw.Ends ty _ _ Go.Exit.normal _) | (simp only [yu]; done) | simp only [yu] | unfold yu
       refine yz (by first | rfl | (simp [go_sem] <;> rfl)) (by first | rfl | simp [go_sem]) ?_
       exact ⟨rfl, by rw [hfin]; first | exact hcut _ _ _ (by simp) | (show Store.cut (updS (updS _ _) _) _ _ = _; rw [hss]; exact hcut _ _ _ (by simp))⟩
     ·have hkk : yb d ≠ 5 ∧ yb d ≠ 9 ∧ yb d ≠ 6 ∧ yb d ≠ 7 := by simp_all
      have hkk2 : yb d ≠ 2 ∧ yb d ≠ 5 ∧ yb d ≠ 9 ∧ yb d ≠ 6 ∧ yb d ≠ 7 := ⟨hk2, hkk⟩
      refine sG ?_
      refine aT 1 ?_
      refine yy rfl rfl rfl (by simp [go_sem] <;> rfl) yca (yaO d _) (by simp [go_sem] <;> rfl) (by simp [go_sem]) rfl rfl ?_
      rintro r σ' ⟨rfl, rfl⟩
      refine ye (yh (Y9 [4, 6, 7] (by simp [go_sem] <;> rfl) ycb (by simp [go_sem]) (by simp [go_sem, YH]) (by decide) fun l => ?_))
      refine Z6 ?_
      intro ST hST
      simp only [go_sem, YH, List.map_cons, List.map_nil, List.append_assoc, List.cons_append, List.nil_append] at hST
      have hST2 : ST = ⟨σ.gl, ST.objs, σ.toks⟩ := by rw [hST]
      have hglS : ST.gl = σ.gl := by rw [hST]
      have hts : ST.toks = σ.toks := by rw [hST]
      have hlow : ST.objs.take σ.objs.length = σ.objs := by rw [hST]; simp [go_sem]
      have hlen : ST.objs.length = σ.objs.length + 5 := by rw [hST]; simp [go_sem]
      have f0 : ST.objs[σ.objs.length]? = some (.box [.ptr ow 0]) := by rw [hST]; simp [go_sem]
      have f1 : ST.objs[σ.objs.length + 1]? = some (.box [.pv (wPV p)]) := by rw [hST]; simp [go_sem]
      have f2 : ST.objs[σ.objs.length + 2]? = some (.box [.pv ((yH ebB) sc)]) := by rw [hST]; simp [go_sem]
      have f3 : ST.objs[σ.objs.length + 3]? = some (.box [.pv (.int .i64 d.kind), .pv (.int .i64 d.num), .pv (.str d.text), .pv (.slice (d.kids.map enc))]) := by rw [hST]; simp [go_sem]
      have hUS : HasU ST (U s) := by rw [hST]; exact hUa _
      have hXS : HasU ST X := by rw [hST]; exact hXa _
      obtain ⟨BT, hBT⟩ : ∃ BT, ST.objs = σ.objs ++ BT := ⟨_, by rw [hST]⟩
      obtain ⟨T0, ps0, as0, bd0, hL⟩ : ∃ T0 ps0 as0 bd0, ST.objs[σ.objs.length + 4]? = some (.loop l .ready none T0 183 ps0 as0 bd0) := ⟨_, _, _, _, by rw [hST]; exact yao⟩
      have hround : ∀ (i : Nat) (τ : Store) (q : Sub × D), (subs d)[i]? = some q → (τ = updS ST (U (wks nam vari d p sc i s))) → ACallsY Tryz.prog l [.pv (.slice (ipv q.1.p)), .pv (enc q.2)] τ fun r τ' => (r = .pv (.bool true) ∧ τ' = updS ST (U (wks nam vari d p sc (i + 1) s))) ∨ (r = .pv (.bool false) ∧ False) := by
       rintro i τ q hq hτ
       rw [hτ]
       have hqm : q ∈ subs d := List.mem_of_getElem? hq
       have hqs := Ys hqm
       have hqp := Yc hqm
       rw [yai nam vari hq]
       have hmi : m + ncs d i + ncnt q.2 ≤ 1000000000 := by have h1 := ycW hq; have h2 := yjl d (i + 1); have h3 := ybI hkk; omega
       have hgR := H.goodS (sc := sc) ho hg i (Nat.le_of_lt (List.getElem?_eq_some_iff.1 hq).1)
       generalize wks nam vari d p sc i s = R at hgR ⊢
       have e0 : (updS ST (U R)).objs[σ.objs.length]? = some (.box [.ptr ow 0]) := (hs0 _ _).trans f0
       have e1 : (updS ST (U R)).objs[σ.objs.length + 1]? = some (.box [.pv (wPV p)]) := (hs1 _ _).trans f1
       have e2 : (updS ST (U R)).objs[σ.objs.length + 2]? = some (.box [.pv ((yH ebB) sc)]) := (hs2 _ _).trans f2
       have eL := (hs4 ST R).trans hL
       have hUR := yas (ob := .loop l .busy none T0 183 ps0 as0 bd0) (H.has (s' := R) hUS) (i := σ.objs.length + 4) (by rw [H.hks]; exact hkl2 _ (by omega))
       have hXR := yas (ob := .loop l .busy none T0 183 ps0 as0 bd0) (H.hasX (s' := R) hXS) (i := σ.objs.length + 4) (by intro hm; obtain ⟨q, hq, e⟩ := List.mem_map.1 hm; have := hXU.lt hq; omega)
       refine Z7 (o := σ.objs.length + 4) ((H.ne (hkl2 (σ.objs.length + 4) (by omega))).trans (by rw [hST]; exact yao)) rfl rfl ?_
       refine sS ?_
       refine aS ?_
       refine ⟨_, _, _, _, _, _, Eq.trans (b := some (.loop l .ready none T0 183 ps0 as0 bd0)) (by simp [go_sem, hs4, hL]) rfl, ?_⟩
       refine yh (yG tyOk tySz 6 (by kernel_rfl) (by decide) ?_)
       refine yo 4 (by simp [go_sem, hs0, hs1, yE, y6, f0, f1, y6] <;> rfl) ?_
       refine yQ (by first | (intro _ _ hh; exact hh) | simp [go_sem, hss]) rfl rfl rfl rfl (by simp [go_sem] <;> rfl) y8 ((y7 p q.1.p (by omega) (by omega) hqp.1) _ (by exact hglS.trans hgl)) (by simp [go_sem, yE, y6, y6] <;> rfl) (by simp [go_sem]) rfl rfl ?_
       refine yo 1 (by simp [go_sem, hs2, yE, y6, f2, y6] <;> rfl) ?_
       refine yF ?_
       refine yy rfl rfl rfl (by simp [go_sem] <;> rfl) yaP (ih q hqm (by omega) (p ++ q.1.p) (by rw [List.length_append]; omega) sc _ hmi R _ (by exact hglS.trans hgl) (H.hOk _ _ _ ho hqm) hgR hUR hXR) (by simp [go_sem] <;> rfl) (by simp [go_sem]) rfl rfl ?_
       rintro r σ' ⟨rfl, rfl⟩
       refine ye (⟨_, _, _, _, _, _, Eq.trans (b := some (.loop l .busy none T0 183 ps0 as0 bd0)) (by simp [go_sem, hs4, hL, Zn]) rfl, ?_⟩)
       refine .inl ⟨rfl, ?_⟩
       exact (yfs (X := updS ST (U R)) (by rw [H.hks]; exact hkl2 _ (by omega)) eL).trans (hss _ _ _)
      refine (ACalls.args (yaK d (by omega) (σ.objs.length + 3) l (fun i τ => τ = updS ST (U (wks nam vari d p sc i s))) (fun _ => False) (fun i τ h => by rw [h]; exact hglS.trans hgl) (fun i τ h => by rw [h]; exact (H.ne (hkl2 _ (by omega))).trans f3) hround ST (YX hUS).symm) (by simp [go_sem])).mono ?_
      rintro _ τ' (hτ | ⟨⟨⟩⟩)
      ·rw [hτ, ycv nam vari hkk2]
       have eL2 := (hs4 ST (wk nam vari d p sc s)).trans hL
       refine ⟨_, _, _, _, _, _, _, Eq.trans (b := some (.loop l .ready none T0 183 ps0 as0 bd0)) (by simp [go_sem, hs4, hL]) rfl, by decide, ?_⟩
       first | (show Go.Aw.Ends ty _ _ Go.Exit.normal _) | (simp only [yu]; done) | simp only [yu] | unfold yu
       refine yz (by first | rfl | (simp [go_sem] <;> rfl)) (by first | rfl | simp [go_sem]) ?_
       refine ⟨rfl, ?_⟩
       refine ydv (by first | omega | (simp [go_sem]; done) | (simp [go_sem]; omega)) ?_
       rw [hST2, hBT]
       exact hcut _ _ _ (by simp)

end Go.Proofs.YtigideidmcmfbaaGreatDoor

namespace Go.Proofs.YtigideidmcmfbaaGreatDoor
open Go Go.Aw
variable {kr : KR}
def mnBd : Option (Option (List Int × Int)) → Bool
  | some (some _) => true
  | _ => false
def yc8 : Option (Option (List Int × Int)) → List AV
  | none => [.pv .nils, .pv (.int .i64 0)]
  | some none => [.pv (.slice []), .pv (.int .i64 0)]
  | some (some b) => [.pv (.slice (ipv b.1)), .pv (.int .i64 b.2)]
def mnU (og ob oo : Nat) (s : Option (Option (List Int × Int))) : List (Nat × AObj) := [(og, .box [.pv (.bool s.isSome)]), (ob, .box [.pv (.bool (mnBd s))]), (oo, .box (yc8 s))]
theorem yhq (s : Option (Option (List Int × Int))) (no nt : Nat) : AObj.clo no nt 0 (.box (yc8 s)) = true := by
  cases s with
  | none => rfl
  | some b => cases b <;> rfl
def mnP (b : Option (List Int × Int)) : List Int := (b.map (·.1)).getD []
def mnI (b : Option (List Int × Int)) : Int := (b.map (·.2)).getD 0
theorem yfD (b : Option (List Int × Int)) : (b.map ebB).getD (.agg [.slice [], .int .i64 0]) = .agg [.slice (ipv (mnP b)), .int .i64 (mnI b)] ∧ yc8 (some b) = [.pv (.slice (ipv (mnP b))), .pv (.int .i64 (mnI b))] := by
  cases b <;> exact ⟨rfl, rfl⟩
theorem yri {g : List (Nat × PV)} {A : List AObj} {T : List Go.Aw.Tok} {a b c d e : AObj} (s : Option (Option (List Int × Int))) : updS ⟨g, A ++ [a, b, c, d, e], T⟩ (mnU (A.length + 2) (A.length + 3) (A.length + 1) s) = ⟨g, A ++ [a, .box (yc8 s), .box [.pv (.bool s.isSome)], .box [.pv (.bool (mnBd s))], e], T⟩ := by
  simp [updS, yK, mnU]
def Yy (d : D) (path : List Int) : PV × Int × Bool × Int := if (sis d != 0) = true then (.nils, 0, false, sis d) else match mnF d path with
  | none => (.nils, 0, false, 5)
  | some b => (.slice (ipv (mnP b)), mnI b, b.isSome, 0)
theorem yhk (b : Option (List Int × Int)) : mnBd (some b) = b.isSome := by cases b <;> rfl
theorem ymD (s : Option (Option (List Int × Int))) : ∃ x y, yc8 s = [x, y] := by
  cases s with
  | none => exact ⟨_, _, rfl⟩
  | some b => cases b <;> exact ⟨_, _, rfl⟩

theorem yqC {a b : List Int} (hl : a.length = b.length) (hz : (a.zip b).length = a.length) (h : NotYet (fun x : Int × Int => !(decide (x.1 = x.2))) (a.zip b) a.length) : a = b := by
  apply List.ext_getElem hl
  intro i h1 h2
  have := h i (a[i], b[i]) h1 (by rw [List.getElem?_eq_getElem (by omega)]; simp)
  simpa using this

set_option maxHeartbeats 1000000 in
theorem ynD (a b : List Int) (hl : a.length ≤ 1000000000) (hl2 : b.length ≤ 1000000000) : Pur Tryz.prog (GL kr) 61 [.pv (.slice (ipv a)), .pv (.slice (ipv b))] (.pv (.bool (decide (a = b)))) := by
 refine yB fun σ hgl => ?_
 refine yk tyOk Tryz.func61 rfl (by simp [Tryz.f61]) ?_
 refine sS ?_
 refine ya (sA (by simp [go_sem, yA] <;> rfl) ?_)
 refine yc (by first | rfl | (simp [go_sem, yA] <;> rfl)) (fun h0 => ?_) (fun h0 => ?_)
 ·refine ya (aS ?_)
  refine yd (yf ?_)
  have hs : ¬ a = b := fun e => by subst e; have h := h0; simp at h
  refine eR ?_
  exact ⟨by simp [go_sem, hs], by simp [go_sem]⟩
 ·have hlen : a.length = b.length := by have h := h0; simp at h; omega
  have hzl : (a.zip b).length = a.length := by simp; omega
  refine yg (ya (sA (by simp [go_sem, yA] <;> rfl) ?_))
  refine yh (yq σ.objs.length σ.toks.length 0 [0, 1, 4, 12] (fun k : Nat => [(13, .pv (.int .i64 ↑k))]) (fun k => σ) (fun k => k ≤ a.length ∧ NotYet (fun x : Int × Int => !(decide (x.1 = x.2))) (a.zip b) k) (fun k => a.length - k) 0 (⟨Nat.zero_le _, .zero⟩) ⟨by simp [go_sem], rfl, by simp, by simp, by simp [go_sem], fun ob h => .inl (by simpa [go_sem, yA] using h), by simp [go_sem]⟩ ?_)
  rintro k ⟨hk, hn⟩
  refine sS ?_
  refine ya (yc (by first | rfl | (simp [go_sem, yA] <;> rfl)) (fun h1 => ?_) (fun h1 => ?_))
  ·have hlt : k < a.length := by simp at h1; omega
   have hw : IntKind.i64.wrap (↑k + 1) = (k : Int) + 1 := yv (by omega)
   obtain ⟨x, hx, hxm⟩ := ym hlt
   obtain ⟨y, hy, hym⟩ := ym (l := b) (k := k) (by omega)
   have hxi : (ipv a)[k]? = some (.int .i64 x) := by unfold ipv; rw [List.getElem?_map, hx]; rfl
   have hyi : (ipv b)[k]? = some (.int .i64 y) := by unfold ipv; rw [List.getElem?_map, hy]; rfl
   refine yg (ya (yh (sS ?_)))
   refine ya (yG tyOk tySz 8 (by kernel_rfl) (by decide) ?_)
   refine yo 8 (by simp [go_sem, hxi, hyi] <;> rfl) ?_
   refine yF ?_
   refine aT 1 ?_
   refine ye (yc (by first | rfl | (simp [go_sem, yA, hx, hxi, hyi] <;> rfl)) (fun h2 => ?_) (fun h2 => ?_))
   ·have hne : x ≠ y := by have h := h2; simp at h; exact h
    refine sS ?_
    refine yd (yi (yf (yf (yi (yf ?_)))))
    have hs : ¬ a = b := fun e => by subst e; rw [hx] at hy; exact hne (Option.some.inj hy)
    refine eR ?_
    exact ⟨by simp [go_sem, hs], by simp [go_sem]⟩
   ·have hxe : x = y := by have h := h2; simp at h; exact h
    refine yg (aS ?_)
    exact yx (k + 1) σ.objs.length σ.toks.length 0 (⟨hlt, hn.succ (yj5 hx hy) (by simpa using hxe)⟩) (by omega) ⟨by simp [go_sem], rfl, by simp, by simp, by simp [go_sem, hw], fun ob h => .inl (by simpa [go_sem, yA, hx, hxi, hyi, hw] using h), by simp [go_sem]⟩
  ·have hke : k = a.length := by simp at h1; omega
   subst hke
   have hab : a = b := yqC hlen hzl hn
   refine yp (yj (yj (yl (sS ?_))))
   refine yd (eR ?_)
   exact ⟨by simp [go_sem, hab], by simp [go_sem]⟩

theorem ysF (a b : List Int) (hl : a.length ≤ 1000000000) (hl2 : b.length ≤ 1000000000) : Pur Tryz.prog (GL kr) 61 [.pv (wPV a), .pv (.slice (ipv b))] (.pv (.bool (decide (a = b)))) := by
  have h := ynD (kr := kr) a b hl hl2
  by_cases e : a = []
  · subst e
    exact fun σ hgl => ACalls.args (h σ hgl) (by simp [go_sem, wPV, ipv])
  · have e2 : wPV a = .slice (ipv a) := by unfold wPV; rw [if_neg e]; rfl
    rw [e2]; exact h
theorem ypl (p : List Int) : (wPV p = .nils ∧ p = []) ∨ wPV p = .slice (ipv p) := by
  by_cases e : p = []
  · exact .inl ⟨by unfold wPV; rw [if_pos e], e⟩
  · exact .inr (by unfold wPV; rw [if_neg e]; rfl)
theorem yo1 (p : List Int) : nrm0 (wPV p) = .slice (ipv p) := by
  rcases ypl p with ⟨h, rfl⟩ | h <;> rw [h] <;> rfl

set_option maxHeartbeats 1000000 in
theorem yo5 (d : D) (p : List Int) (ns : List ByteArray) (hl : ns.length ≤ 1000000000) (n : Int) (h0 : 0 ≤ n) (h1 : n ≤ 1000000000) : Pur Tryz.prog (GL kr) 59 [.pv (enc d), .pv (wPV p), .pv (.slice (ns.map .str)), .pv (.int .i64 n)] (.pv (.slice ((bnM p n ns).map ebB))) := by
 have hwc := yar p
 have hwn := yo1 p
 have hcl := Zi p
 have ht0 : ((bnM p n ns).map ebB).take 0 = [] := rfl
 have hsz : ∀ k, y4 2 (((bnM p n ns).map ebB).take k) = true := fun k => List.all_eq_true.2 fun x hx => by obtain ⟨b, _, rfl⟩ := List.mem_map.1 (List.mem_of_mem_take hx); rfl
 have hbl := yke p n ns
 unfold nrm0 at hwn
 refine yB fun σ hgl => ?_
 refine yk tyOk Tryz.func59 rfl (by simp [Tryz.f59]) ?_
 refine sS ?_
 refine sS ?_
 refine ya (sS ?_)
 refine zF 9 83 2 (by simp [go_sem] <;> rfl) ?_
 refine yh (yq σ.objs.length (σ.toks.length + 1) 1 [1, 3, 8, 12] (fun k : Nat => [(9, .acc (((bnM p n ns).map ebB).take k) σ.toks.length), (13, .pv (.int .i64 ↑k))]) (fun k => { σ with toks := σ.toks ++ [⟨k, 83, 2⟩] }) (fun k => k ≤ ns.length) (fun k => ns.length - k) 0 (Nat.zero_le _) ⟨by simp [go_sem, ht0], rfl, by simp, by simp, by simp [go_sem, ht0], fun ob h => .inl (by simpa [go_sem, hwc, hwn, hcl, hsz, ht0] using h), by simp [go_sem]⟩ ?_)
 intro k hk
 refine sS ?_
 refine ya (yc (by first | rfl | (simp [go_sem, hwc, hwn, hcl, hsz] <;> rfl)) (fun h0 => ?_) (fun h0 => ?_))
 ·have hlt : k < ns.length := by simp at h0; omega
  have hw : IntKind.i64.wrap (↑k + 1) = (k : Int) + 1 := yv (by omega)
  obtain ⟨x, hx, hxm⟩ := ym hlt
  have hwi : IntKind.i64.wrap (n + (k : Int)) = n + (k : Int) := yO (by omega) (by omega)
  have hnx : ((bnM p n ns).map ebB).take (k + 1) = ((bnM p n ns).map ebB).take k ++ [.agg [.slice (ipv p), .int .i64 (n + (k : Int))]] := yI (by unfold bnM; rw [List.getElem?_map, zC, hx]; rfl)
  have hm : min k (bnM p n ns).length = k := by omega
  have hb2 : (k + 1) * 32 ≤ 140737488355328 := by omega
  refine yg (ya (yh (sS ?_)))
  refine aR (by simp [go_sem, hwc, hwn, hwi, hm, hb2] <;> rfl) ?_
  refine aS ?_
  exact yx (k + 1) σ.objs.length (σ.toks.length + 1) 1 (hlt) (by omega) ⟨by simp [go_sem, hnx], rfl, by simp, by simp, by simp [go_sem, hw, hnx], fun ob h => .inl (by simpa [go_sem, hwc, hwn, hcl, hsz, hx, hwi, hm, hb2, hw, hnx] using h), by simp [go_sem]⟩
 ·have hke : k = ns.length := by simp at h0; omega
  subst hke
  have hfin : ((bnM p n ns).map ebB).take ns.length = (bnM p n ns).map ebB := List.take_of_length_le (by rw [List.length_map]; omega)
  refine yp (yj (yj (yl (sA (by simp [go_sem, hfin] <;> rfl) ?_))))
  refine yd (eR ?_)
  exact ⟨by simp [go_sem], by simp [go_sem]⟩

set_option maxHeartbeats 1000000 in
theorem yop (d : D) (p : List Int) (hp : p.length ≤ 1000000000) (b : Option (List Int × Int)) (path : List Int) (hq : path.length ≤ 1000000000) (op og ob oo : Nat) (h1 : og ≠ ob) (h2 : og ≠ oo) (h3 : ob ≠ oo) (s : Option (Option (List Int × Int))) (σ : Store) (hgl : σ.gl = (GL kr)) (hU : HasU σ (mnU og ob oo s)) (hp2 : σ.objs[op]? = some (.box [.pv (.slice (ipv path))])) : ACalls Tryz.prog 60 [.pv (enc d), .pv (wPV p), .pv ((b.map ebB).getD (.agg [.slice [], .int .i64 0])), .pv (.bool b.isSome), .ptr op 0, .ptr og 0, .ptr ob 0, .ptr oo 0] σ (fun r σ' => r = .tuple [] ∧ σ' = updS σ (mnU og ob oo (varM path p b s))) := by
 have hg := hU (og, .box [.pv (.bool s.isSome)]) (by simp [mnU])
 have hb := hU (ob, .box [.pv (.bool (mnBd s))]) (by simp [mnU])
 have ho := hU (oo, .box (yc8 s)) (by simp [mnU])
 obtain ⟨zx, zy, hzo⟩ := ymD s
 simp only at hg hb ho
 rw [hzo] at ho
 obtain ⟨hzb, hzs⟩ := yfD b
 obtain ⟨zp, hzp⟩ : ∃ z, z = ipv (mnP b) := ⟨_, rfl⟩
 obtain ⟨zi, hzi⟩ : ∃ z, z = mnI b := ⟨_, rfl⟩
 rw [← hzp, ← hzi] at hzb hzs
 have htk : ∀ A B C, List.take σ.objs.length (((σ.objs.set og A).set ob B).set oo C) = ((σ.objs.set og A).set ob B).set oo C := fun _ _ _ => List.take_of_length_le (by simp)
 have hbs := yhk b
 have h1s := h1.symm
 have h2s := h2.symm
 have h3s := h3.symm
 have hwc := yar p
 refine ya3 (fun q hq => ?_) ?_
 · simp only [mnU, List.mem_cons, List.not_mem_nil, or_false] at hq
   rcases hq with rfl | rfl | rfl
   · rfl
   · rfl
   · exact yhq _ _ _
 refine yk tyOk Tryz.func60 rfl (by simp [Tryz.f60]) ?_
 refine sA (by simp [go_sem, hzb] <;> rfl) ?_
 refine sG ?_
 refine aL 2 (by simp [go_sem, hp2] <;> rfl) ?_
 refine aG yr1 ((ysF p path hp hq) _ (by exact hgl)) ?_
 refine ye (yc (by first | rfl | (simp [go_sem, hg, hb, ho, hp2, hzb, h1, h2, h3, h1s, h2s, h3s, hwc] <;> rfl)) (fun h0 => ?_) (fun h0 => ?_))
 ·refine yeB tyOk tySz [[1, 0, 2, 3, 4], [0, 1, 2, 3, 4], [0, 2, 1, 3, 4], [0, 2, 3, 1, 4], [1, 2, 0, 3, 4], [2, 1, 0, 3, 4], [2, 0, 1, 3, 4], [2, 0, 3, 1, 4]] (by kernel_rfl) ?_
  intro l hl
  simp only [List.mem_cons, List.not_mem_nil, or_false] at hl
  rcases hl with rfl | rfl | rfl | rfl | rfl | rfl | rfl | rfl
  ·show AOpsL _ _ _ _ [_, _, _, _, _] _ _
   refine aL 5 (by simp [go_sem, hg, hb, ho, h1, h2, h3] <;> rfl) ?_
   refine ye ?_
   have hpe : p = path := by simpa using h0
   refine yz (by simp [go_sem] <;> rfl) (by simp [go_sem]) ?_
   exact ⟨by simp [go_sem], by simp [go_sem, mnU, varM, hpe, updS, yK, hzs, hbs, htk]⟩
  ·show AOpsL _ _ _ _ [_, _, _, _, _] _ _
   refine aL 5 (by simp [go_sem, hg, hb, ho, h1, h2, h3] <;> rfl) ?_
   refine ye ?_
   have hpe : p = path := by simpa using h0
   refine yz (by simp [go_sem] <;> rfl) (by simp [go_sem]) ?_
   exact ⟨by simp [go_sem], by simp [go_sem, mnU, varM, hpe, updS, yK, hzs, hbs, htk]⟩
  ·show AOpsL _ _ _ _ [_, _, _, _, _] _ _
   refine aL 5 (by simp [go_sem, hg, hb, ho, h1, h2, h3] <;> rfl) ?_
   refine ye ?_
   have hpe : p = path := by simpa using h0
   refine yz (by simp [go_sem] <;> rfl) (by simp [go_sem]) ?_
   exact ⟨by simp [go_sem], by simp [go_sem, mnU, varM, hpe, updS, yK, hzs, hbs, htk]⟩
  ·show AOpsL _ _ _ _ [_, _, _, _, _] _ _
   refine aL 5 (by simp [go_sem, hg, hb, ho, h1, h2, h3] <;> rfl) ?_
   refine ye ?_
   have hpe : p = path := by simpa using h0
   refine yz (by simp [go_sem] <;> rfl) (by simp [go_sem]) ?_
   exact ⟨by simp [go_sem], by simp [go_sem, mnU, varM, hpe, updS, yK, hzs, hbs, htk]⟩
  ·show AOpsL _ _ _ _ [_, _, _, _, _] _ _
   refine aL 5 (by simp [go_sem, hg, hb, ho, h1, h2, h3] <;> rfl) ?_
   refine ye ?_
   have hpe : p = path := by simpa using h0
   refine yz (by simp [go_sem] <;> rfl) (by simp [go_sem]) ?_
   exact ⟨by simp [go_sem], by simp [go_sem, mnU, varM, hpe, updS, yK, hzs, hbs, htk]⟩
  ·show AOpsL _ _ _ _ [_, _, _, _, _] _ _
   refine aL 5 (by simp [go_sem, hg, hb, ho, h1, h2, h3] <;> rfl) ?_
   refine ye ?_
   have hpe : p = path := by simpa using h0
   refine yz (by simp [go_sem] <;> rfl) (by simp [go_sem]) ?_
   exact ⟨by simp [go_sem], by simp [go_sem, mnU, varM, hpe, updS, yK, hzs, hbs, htk]⟩
  ·show AOpsL _ _ _ _ [_, _, _, _, _] _ _
   refine aL 5 (by simp [go_sem, hg, hb, ho, h1, h2, h3] <;> rfl) ?_
   refine ye ?_
   have hpe : p = path := by simpa using h0
   refine yz (by simp [go_sem] <;> rfl) (by simp [go_sem]) ?_
   exact ⟨by simp [go_sem], by simp [go_sem, mnU, varM, hpe, updS, yK, hzs, hbs, htk]⟩
  ·show AOpsL _ _ _ _ [_, _, _, _, _] _ _
   refine aL 5 (by simp [go_sem, hg, hb, ho, h1, h2, h3] <;> rfl) ?_
   refine ye ?_
   have hpe : p = path := by simpa using h0
   refine yz (by simp [go_sem] <;> rfl) (by simp [go_sem]) ?_
   exact ⟨by simp [go_sem], by simp [go_sem, mnU, varM, hpe, updS, yK, hzs, hbs, htk]⟩
 ·refine yg ?_
  have hpe : ¬ p = path := by simpa using h0
  refine yz (by simp [go_sem] <;> rfl) (by simp [go_sem]) ?_
  exact ⟨by simp [go_sem], by rw [show varM path p b s = s from if_neg hpe, YX hU]; simp [go_sem]⟩

set_option maxHeartbeats 1000000 in
theorem ysl (p : List Int) (hp : p.length ≤ 1000000000) (x : PV) (r : List PV) (hx : ipv p = x :: r) : Pur Tryz.prog (GL kr) 63 [.pv (.slice (ipv p))] (.pv (.slice (ipv p))) := by
 have hb1 : p.length * 8 ≤ 140737488355328 := by omega
 have hil := yA p
 have hal := ymp p
 rw [hx] at hil hal ⊢
 simp only [List.length_cons] at hil
 have hb2 : (r.length + 1) * 8 ≤ 140737488355328 := by omega
 refine yB fun σ hgl => ?_
 refine yk tyOk Tryz.func63 rfl (by simp [Tryz.f63]) ?_
 refine sS ?_
 refine ya (sS ?_)
 refine yc (by first | rfl | (simp [go_sem, hal, hb2] <;> rfl)) (fun h0 => ?_) (fun h0 => ?_)
 ·first | (cases h0; done) | (simp at h0; done)
 ·refine yg (sA (by simp [go_sem, hal, hb2] <;> rfl) ?_)
  refine yd (eR ?_)
  exact ⟨by simp [go_sem], by simp [go_sem]⟩

set_option maxHeartbeats 1000000 in
theorem ysr  : Pur Tryz.prog (GL kr) 63 [.pv (.slice [])] (.pv (.slice [])) := by
 refine yB fun σ hgl => ?_
 refine yk tyOk Tryz.func63 rfl (by simp [Tryz.f63]) ?_
 refine sS ?_
 refine ya (sG ?_)
 refine aT 1 ?_
 refine yos tyOk rfl rfl rfl rfl rfl rfl ?_
 intro b
 cases b
 ·refine ye (aC (fun h0 => ?_) (fun h0 => ?_))
  ·refine ya (aS ?_)
   refine yd (yf (eR ?_))
   exact ⟨by simp [go_sem], by simp [go_sem]⟩
  ·refine yg (sS ?_)
   refine yd (eR ?_)
   exact ⟨by simp [go_sem], by simp [go_sem]⟩
 ·refine ye (aC (fun h1 => ?_) (fun h1 => ?_))
  ·refine ya (aS ?_)
   refine yd (yf (eR ?_))
   exact ⟨by simp [go_sem], by simp [go_sem]⟩
  ·refine yg (sS ?_)
   refine yd (eR ?_)
   exact ⟨by simp [go_sem], by simp [go_sem]⟩

theorem yjV (p : List Int) (hp : p.length ≤ 1000000000) : Pur Tryz.prog (GL kr) 63 [.pv (.slice (ipv p))] (.pv (.slice (ipv p))) := by
  cases p with
  | nil => exact ysr
  | cons i p => exact ysl (i :: p) hp (.int .i64 i) (ipv p) rfl
theorem yow (p : List Int) (h : p.length ≤ 400000000) : p.length ≤ 1000000000 := by omega
theorem yoT {d : D} {ns : List ByteArray} {n : Int} (hd : d.size ≤ 100000000) (h : NmOk d ns n) : 0 ≤ n ∧ n ≤ 1000000000 := by
  cases h with
  | own => omega
  | par hk hx =>
    have h1 := (List.getElem?_eq_some_iff.1 hx).1
    have h2 := Y3 (d1 d.kids).kids _ (Nat.le_of_lt h1)
    have h3 := D.size_kids (d1 d.kids)
    have h4 := (yZ d).1 (.inr (.inr hk))
    have h5 : (d1 d.kids).size < d.size := D.size_kid_lt (Yw (n := 1) (by omega))
    have h6 := D.kids_length_lt (d1 d.kids)
    omega
theorem mnWk (path : List Int) (hq : path.length ≤ 1000000000) (op og ob oo ow : Nat) (h1 : og ≠ ob) (h2 : og ≠ oo) (h3 : ob ≠ oo) (h4 : op ≠ og) (h5 : op ≠ ob) (h6 : op ≠ oo) (h7 : ow ≠ og) (h8 : ow ≠ ob) (h9 : ow ≠ oo) :
    WkH Tryz.prog (GL kr) ebB (.agg [.slice [], .int .i64 0]) (mnU og ob oo) [og, ob, oo] [(op, .box [.pv (.slice (ipv path))]), (ow, .box [.func (.func 59) [], .func (.func 60) [.ptr op 0, .ptr og 0, .ptr ob 0, .ptr oo 0]])] ow 59 [] 60 [.ptr op 0, .ptr og 0, .ptr ob 0, .ptr oo 0] namM (fun _ p b s => varM path p b s) (fun _ _ => True) (fun _ _ => True) := by
  refine ⟨fun _ => rfl, by simp [h1, h2, h3], fun q hq => ?_, by simp, yqT, yrq, rfl, rfl, fun s no nt h q hq => ?_, fun _ _ _ _ _ => trivial, fun d p ns n s => yke p n ns, fun _ _ _ _ _ _ _ _ _ => trivial, fun _ _ _ _ _ _ _ _ => trivial, fun d p ns n m s σ hd hp _ _ hm hnm hgl hU hX => ?_, fun d p b m s σ hd hp _ _ _ hgl hU hX => ?_⟩
  · simp only [List.mem_cons, List.not_mem_nil, or_false] at hq
    rcases hq with rfl | rfl <;> simp [*]
  · simp only [mnU, List.mem_cons, List.not_mem_nil, or_false] at hq
    rcases hq with rfl | rfl | rfl
    · rfl
    · rfl
    · exact yhq _ _ _
  · have hb := yoT hd hnm
    exact (yo5 (kr := kr) d p ns (by omega) n hb.1 hb.2 σ hgl).mono fun r σ' ⟨h1, h2⟩ => ⟨h1, h2.trans (YX hU).symm⟩
  · exact yop (kr := kr) d p (yow p hp) b path hq op og ob oo h1 h2 h3 s σ hgl hU (hX (op, .box [.pv (.slice (ipv path))]) (by simp))

set_option maxHeartbeats 2000000 in
theorem ypR (d : D) (hd : d.size ≤ 100000000) (path : List Int) (hq : path.length ≤ 1000000000) : Pur Tryz.prog (GL kr) 24 [.pv (enc d), .pv (.slice (ipv path))] (.tuple [.pv (Yy d path).1, .pv (.int .i64 (Yy d path).2.1), .pv (.bool (Yy d path).2.2.1), .pv (.int .i64 (Yy d path).2.2.2)]) := by
 refine yB fun σ hgl => ?_
 obtain ⟨F, hF⟩ : ∃ z, z = mnF d path := ⟨_, rfl⟩
 have hW := fun (Y : Store) (g1 : Y.gl = (GL kr)) (hU : HasU Y (mnU (σ.objs.length + 2) (σ.objs.length + 3) (σ.objs.length + 1) none)) (hX : HasU Y [(σ.objs.length, .box [.pv (.slice (ipv path))]), (σ.objs.length + 4, .box [.func (.func 59) [], .func (.func 60) [.ptr σ.objs.length 0, .ptr (σ.objs.length + 2) 0, .ptr (σ.objs.length + 3) 0, .ptr (σ.objs.length + 1) 0]])]) => ymq (mnWk (kr := kr) path hq σ.objs.length (σ.objs.length + 2) (σ.objs.length + 3) (σ.objs.length + 1) (σ.objs.length + 4) (by omega) (by omega) (by omega) (by omega) (by omega) (by omega) (by omega) (by omega) (by omega)) d hd [] (by simp; omega) [] 0 (by have := ygQ d; omega) none Y g1 trivial trivial hU hX
 have hFe : wk namM (fun _ p b s => varM path p b s) d [] [] none = F := hF.symm
 refine yk tyOk Tryz.func24 rfl (by simp [Tryz.f24]) ?_
 refine ya (yD (sh := [3]) tyOk (by simp [go_sem] <;> rfl) ?_)
 refine ya (sG ?_)
 refine aT 1 ?_
 refine aG ydV ((yfM d hd) _ (by exact hgl)) ?_
 refine aT 1 ?_
 refine ye (sS ?_)
 refine aC (fun h0 => ?_) (fun h0 => ?_)
 ·refine ya (aS ?_)
  refine yd (yf (eR ?_))
  exact ⟨by unfold Yy; rw [if_pos h0]; simp [go_sem], by simp [go_sem]⟩
 ·refine yg (ya (yD (sh := [9]) tyOk (by simp [go_sem] <;> rfl) ?_))
  refine ya (yD (sh := [10, 11]) tyOk (by simp [go_sem] <;> rfl) ?_)
  refine ya (yD (sh := [20]) tyOk (by simp [go_sem] <;> rfl) ?_)
  refine sG ?_
  refine aT 2 ?_
  refine yy rfl rfl rfl (by simp [go_sem] <;> rfl) yaP (hW _ (by exact hgl) (by intro q hq; simp only [mnU, List.mem_cons, List.not_mem_nil, or_false] at hq; rcases hq with rfl | rfl | rfl <;> simp [yc8, mnBd]) (by intro q hq; simp only [List.mem_cons, List.not_mem_nil, or_false] at hq; rcases hq with rfl | rfl <;> simp)) (by simp [go_sem] <;> rfl) (by simp [go_sem, wPV, yH]) rfl rfl ?_
  rintro r σ' ⟨rfl, rfl⟩
  rw [hFe, yri]
  refine ye (ya (sS ?_))
  refine aC (fun h1 => ?_) (fun h1 => ?_)
  ·have hb : F = none := by cases F with | none => rfl | some b => (have h := h1; simp at h)
   subst hb
   refine sS ?_
   refine yd (yf (eR ?_))
   exact ⟨by unfold Yy; rw [if_neg (by rw [h0]; decide), ← hF]; simp [go_sem], by simp [go_sem]⟩
  ·obtain ⟨b, hb⟩ : ∃ b, F = some b := by cases F with | none => (have h := h1; simp at h) | some b => exact ⟨b, rfl⟩
   obtain ⟨_, hzs⟩ := yfD b
   have hbs := yhk b
   subst hb
   have hpl := yqY d path b hF.symm (by omega)
   simp only [hzs, hbs]
   refine yg (ya (yG tyOk tySz 8 (by kernel_rfl) (by decide) ?_))
   refine yo 2 (by simp [go_sem] <;> rfl) ?_
   refine yQ (by first | (intro _ _ hh; exact hh) | simp [go_sem]) rfl rfl rfl rfl (by simp [go_sem] <;> rfl) yrM ((yjV (mnP b) hpl) _ (by exact hgl)) (by simp [go_sem] <;> rfl) (by simp [go_sem]) rfl rfl ?_
   refine yo 5 (by simp [go_sem] <;> rfl) ?_
   refine yF ?_
   refine aT 2 ?_
   refine ye (yd (eR ?_))
   exact ⟨by unfold Yy; rw [if_neg (by rw [h0]; decide), ← hF]; simp [go_sem], by simp [go_sem]⟩

end Go.Proofs.YtigideidmcmfbaaGreatDoor

namespace Go.Proofs.YtigideidmcmfbaaGreatDoor
open Go Go.Aw
variable {kr : KR}
theorem yj8 : ∀ {a b : List Int}, ipv a = ipv b → a = b
  | [], [], _ => rfl
  | [], y :: b, h => by simp [ipv] at h
  | x :: a, [], h => by simp [ipv] at h
  | x :: a, y :: b, h => by
    simp only [ipv, List.map_cons, List.cons.injEq, PV.int.injEq, true_and] at h
    rw [h.1, yj8 (a := a) (b := b) h.2]
theorem yn0 {x : D} {c : Int} (hc : c = sis x) (h : (c != 0) = true) (p : List Int) : Yy x p = (.nils, 0, false, c) := by
  subst hc
  unfold Yy
  rw [if_pos h]
theorem ypM {x : D} (h : sis x = 0) (p : List Int) : Yy x p = match mnF x p with
  | none => (.nils, 0, false, 5)
  | some b => (.slice (ipv (mnP b)), mnI b, b.isSome, 0) := by
  unfold Yy
  rw [if_neg (by rw [h]; decide)]
  all_goals (cases mnF x p <;> rfl)
theorem yqx (x : D) (p : List Int) : ∃ l : List Int, ((Yy x p).1 = .nils ∧ l = []) ∨ (Yy x p).1 = .slice (ipv l) := by
  unfold Yy
  split
  · exact ⟨[], .inl ⟨rfl, rfl⟩⟩
  · split
    · exact ⟨[], .inl ⟨rfl, rfl⟩⟩
    · exact ⟨_, .inr rfl⟩

set_option maxHeartbeats 4000000 in
theorem yjd (d : D) (pa : List Int) (hpw : ∀ n, n ∈ pa → -9223372036854775808 ≤ n ∧ n ≤ 9223372036854775807) (hpl : pa.length ≤ 17592186044415) (σ : Store) (hσ : σ = ⟨(GL kr), [], []⟩) : zJ Tryz.prog σ 5 [.pv (enc d), .pv (.slice (pa.map (.int .i64)))] (.pv (.bool true)) := by
 have hgl : σ.gl = (GL kr) := by rw [hσ]
 obtain ⟨x, hx⟩ : ∃ x, x = cutL d := ⟨_, rfl⟩
 have hxs : x.size ≤ 400 := hx ▸ ylR d
 obtain ⟨c, hc⟩ : ∃ z, z = sis x := ⟨_, rfl⟩
 have hck : chkL [x] = c := by rw [ynM, hc]
 obtain ⟨p, hp⟩ : ∃ z, z = pa.take 500 := ⟨_, rfl⟩
 have hp500 : p.length ≤ 500 := by rw [hp, List.length_take]; omega
 have hm1 : (0 : Int) ≤ (if (500 : Int) < pa.length then (500 : Int) else pa.length) := by split <;> omega
 have hm2 : (if (500 : Int) < pa.length then (500 : Int) else pa.length) ≤ pa.length := by split <;> omega
 have hm3 : (pa.map (PV.int .i64)).take (if (500 : Int) < pa.length then (500 : Int) else pa.length).toNat = ipv p := by rw [hp]; unfold ipv; rw [← List.map_take]; congr 1; split; rfl; rw [List.take_of_length_le (by omega), List.take_of_length_le (by omega)]
 have hm4 : (pa.take (if (500 : Int) < pa.length then (500 : Int) else pa.length).toNat).map (PV.int .i64) = ipv p := by rw [List.map_take]; exact hm3
 have hpb : p.length * 8 ≤ 140737488355328 := by omega
 obtain ⟨mq, mi, mb, me, hM⟩ : ∃ a b c e, Yy x p = (a, b, c, e) := ⟨_, _, _, _, rfl⟩
 obtain ⟨ql, hql⟩ := yqx x p
 rw [hM] at hql
 simp only at hql
 have hMe : Pur Tryz.prog (GL kr) 24 [.pv (enc x), .pv (.slice (ipv p))] (.tuple [.pv mq, .pv (.int .i64 mi), .pv (.bool mb), .pv (.int .i64 me)]) := by have h := ypR (kr := kr) x (by omega) p (by omega); rw [hM] at h; exact h
 have hmqc : mq.cells = [mq] ∧ mq.nrm = mq := by rcases hql with ⟨h, _⟩ | h <;> rw [h] <;> exact ⟨rfl, rfl⟩
 obtain ⟨hq1, hq2⟩ := hmqc
 have hq3 : (AV.pv mq).cells = some [.pv mq] := by rw [yfr, hq1]; rfl
 have hq4 := hq2
 unfold PV.nrm at hq4
 refine Y1 ?_
 refine yk tyOk Tryz.func5 rfl (by simp [Tryz.f5]) ?_
 refine sS ?_
 refine ya (Yq tyOk tySz 9 (by kernel_rfl) (by decide) ?_)
 refine yo 1 (by simp [go_sem] <;> rfl) ?_
 refine yQ (by first | (intro _ _ hh; exact hh) | simp [go_sem]) rfl rfl rfl rfl (by simp [go_sem] <;> rfl) yrT ((yrd d x hx) _ (by exact hgl)) (by simp [go_sem] <;> rfl) (by simp [go_sem]) rfl rfl ?_
 refine yo 7 (by simp [go_sem, hm1, hm2, hm3] <;> rfl) ?_
 refine yF ?_
 refine aT 1 ?_
 refine ye (ya (Yq tyOk tySz 13 (by kernel_rfl) (by decide) ?_))
 refine yo 4 (by simp [go_sem, hpb, yA] <;> rfl) ?_
 refine yQ (by first | (intro _ _ hh; exact hh) | simp [go_sem]) rfl rfl rfl rfl (by simp [go_sem] <;> rfl) yru ((hMe) _ (by exact hgl)) (by simp [go_sem] <;> rfl) (by simp [go_sem]) rfl rfl ?_
 refine yo 8 (by simp [go_sem] <;> rfl) ?_
 refine yF ?_
 refine aT 1 ?_
 refine ye (yiv (s2 := ⟨[(1, .pv (.slice (pa.map (.int .i64)))), (2, .lptr 0 0), (5, .lptr 1 0), (6, .pv (.slice (ipv p))), (7, .pv (.slice (ipv ql))), (8, .pv (.int .i64 mi)), (9, .pv (.bool mb)), (10, .pv (.int .i64 me))], [[.pv (.int .i64 d.kind), .pv (.int .i64 d.num), .pv (.str d.text), .pv (.slice (d.kids.map enc))], [.pv (.int .i64 x.kind), .pv (.int .i64 x.num), .pv (.str x.text), .pv (.slice (x.kids.map enc))]], σ⟩) σ.objs.length σ.toks.length 2 ⟨by simp [go_sem], by simp [go_sem], by simp, by simp, by rcases hql with ⟨h, h2⟩ | h <;> simp [go_sem, ipv, *], fun ob h => .inl (by simpa [go_sem] using h), by simp [go_sem]⟩ ?_)
 refine yjH σ.objs.length σ.toks.length 2 ⟨[(1, .pv (.slice (pa.map (.int .i64)))), (2, .lptr 0 0), (5, .lptr 1 0), (6, .pv (.slice (ipv p))), (7, .pv (.slice (ipv ql))), (8, .pv (.int .i64 mi)), (9, .pv (.bool mb)), (10, .pv (.int .i64 me)), (11, .pv (.bool ((decide ((ql.length : Int) = 0) && decide (mi = 0)) && !mb)))], [[.pv (.int .i64 d.kind), .pv (.int .i64 d.num), .pv (.str d.text), .pv (.slice (d.kids.map enc))], [.pv (.int .i64 x.kind), .pv (.int .i64 x.num), .pv (.str x.text), .pv (.slice (x.kids.map enc))]], σ⟩ ?_ ?_
 ·refine aL 4 (by simp [go_sem, yA] <;> rfl) ?_
  refine yn 37 (by first | rfl | (simp [go_sem, hm1, hm2, hm3, hm4, hpb, hck, hq1, hq2, hq3, hq4, yA] <;> rfl)) (fun h20 => ?_) (fun h20 => ?_)
  ·refine aLG 2 37 true (by simp [go_sem] <;> rfl) ?_
   refine aT 2 ?_
   refine yn 41 (by first | rfl | (simp [go_sem, hm1, hm2, hm3, hm4, hpb, hck, hq1, hq2, hq3, hq4, yA] <;> rfl)) (fun h21 => ?_) (fun h21 => ?_)
   ·refine aLG 2 41 true (by simp [go_sem] <;> rfl) ?_
    refine aT 2 ?_
    refine ye (⟨by simp [go_sem], by simp [go_sem], by simp, by simp, by first | (simp [go_sem, h20, h21]; done) | (simp [go_sem, h20, h21] <;> simp_all), fun ob h => .inl (by simpa [go_sem, hm1, hm2, hm3, hm4, hpb, hck, hq1, hq2, hq3, hq4, yA, h20, h21] using h), by simp [go_sem]⟩)
   ·refine aK 2 41 true ?_
    refine aT 2 ?_
    refine ye (⟨by simp [go_sem], by simp [go_sem], by simp, by simp, by first | (simp [go_sem, h20, h21]; done) | (simp [go_sem, h20, h21] <;> simp_all), fun ob h => .inl (by simpa [go_sem, hm1, hm2, hm3, hm4, hpb, hck, hq1, hq2, hq3, hq4, yA, h20, h21] using h), by simp [go_sem]⟩)
  ·refine aK 2 37 true ?_
   refine aT 2 ?_
   refine aK 2 41 true ?_
   refine aT 2 ?_
   refine ye (⟨by simp [go_sem], by simp [go_sem], by simp, by simp, by first | (simp [go_sem, h20]; done) | (simp [go_sem, h20] <;> simp_all), fun ob h => .inl (by simpa [go_sem, hm1, hm2, hm3, hm4, hpb, hck, hq1, hq2, hq3, hq4, yA, h20] using h), by simp [go_sem]⟩)
 ·refine ya (sG ?_)
  refine aT 2 ?_
  refine aG yq4 ((ynH [x] (by simp) (by intro y hy; rw [List.mem_singleton.1 hy]; omega)) _ (by exact hgl)) ?_
  refine aL 1 (by simp [go_sem, hck] <;> rfl) ?_
  refine ye (sS ?_)
  refine yc (by first | rfl | (simp [go_sem, hm1, hm2, hm3, hm4, hpb, hck, hq1, hq2, hq3, hq4, yA] <;> rfl)) (fun h22 => ?_) (fun h22 => ?_)
  ·have hb1 := yn0 hc h22 p
   rw [hM] at hb1
   cases hb1
   have hq0 : ql = [] := by rcases hql with ⟨_, h⟩ | h; exact h; cases h
   subst hq0
   refine sG ?_
   refine aT 2 ?_
   refine yn 51 (by first | rfl | (simp [go_sem, hm1, hm2, hm3, hm4, hpb, hck, hq1, hq2, hq3, hq4, yA] <;> rfl)) (fun h23 => ?_) (fun h23 => ?_)
   ·refine aLG 3 51 true (by simp [go_sem] <;> rfl) ?_
    refine aT 2 ?_
    refine yn 56 (by first | rfl | (simp [go_sem, hm1, hm2, hm3, hm4, hpb, hck, hq1, hq2, hq3, hq4, yA] <;> rfl)) (fun h24 => ?_) (fun h24 => ?_)
    ·refine yY 56 true true (by simp [go_sem]) rfl (by simp [go_sem]) rfl rfl (by simp [go_sem] <;> rfl) ygd (yem σ hσ) (by simp [go_sem] <;> rfl) (by simp [go_sem]) rfl rfl ?_
     refine aT 2 ?_
     refine ye (yd (yf (eR ?_)))
     exact ⟨by simp [go_sem], by simp [go_sem]⟩
    ·first | (cases h24; done) | (simp at h24; done)
   ·first | (cases h23; done) | (simp at h23; done)
  ·have hz : c = 0 := by simpa using h22
   have hsz : sis x = 0 := by rw [← hc, hz]
   have hb1 := ypM hsz p
   rw [hM] at hb1
   have hfm := ydj (yqZ hsz).1
   obtain ⟨vs, hvs⟩ : ∃ z, z = rvars x [] [] := ⟨_, rfl⟩
   have hVr := yr9 (kr := kr) x (by omega) hfm
   have hvl := yg7 x [] []
   have hve : ∀ v, v ∈ vs → v.env.length ≤ 1000000000 := by rw [hvs]; exact fun v hv => by have := ylM v hv; simp at this; omega
   have hvp : ∀ v, v ∈ vs → v.p.length ≤ 1000000000 := by rw [hvs]; exact fun v hv => by (obtain ⟨r, y, e, h1, _⟩ := yfT x [] [] v hv; have := ye6 h1; rw [e]; simp; omega)
   have hvb : ∀ v, v ∈ vs → ∀ b, some b = YS v.nm v.env → b.p.length ≤ 1000000000 := by rw [hvs]; exact fun v hv b hb => by have := yiG x [] [] (by simp; omega) (fun b hb => by simp at hb) v hv b (List.mem_reverse.1 (List.mem_of_find?_eq_some hb.symm)); omega
   have hmf := ymJ x p
   rw [← hvs] at hVr hvl hmf
   refine yg (sG ?_)
   refine aT 1 ?_
   refine aG ysb ((hVr) _ (by exact hgl)) ?_
   refine aT 1 ?_
   refine ye (ya (sS ?_))
   refine yh (yq σ.objs.length σ.toks.length 2 [4, 6, 7, 8, 9, 10, 11, 13] (fun k : Nat => [(14, .pv (.int .i64 ↑k))]) (fun k => σ) (fun k => k ≤ vs.length ∧ NotYet (fun v : Vr => decide (v.p = p)) vs k) (fun k => vs.length - k) 0 (⟨Nat.zero_le _, .zero⟩) ⟨by simp [go_sem], rfl, by simp, by simp, by simp [go_sem], fun ob h => .inl (by simpa [go_sem, hm1, hm2, hm3, hm4, hpb, hck, hq1, hq2, hq3, hq4, yA] using h), by simp [go_sem]⟩ ?_)
   rintro k ⟨hk, hn⟩
   refine ya (sS ?_)
   refine yc (by first | rfl | (simp [go_sem, hm1, hm2, hm3, hm4, hpb, hck, hq1, hq2, hq3, hq4, yA] <;> rfl)) (fun h25 => ?_) (fun h25 => ?_)
   ·have hlt : k < vs.length := by simp at h25; omega
    have hw : IntKind.i64.wrap (↑k + 1) = (k : Int) + 1 := yv (by omega)
    obtain ⟨v, hv, hvm⟩ := ym hlt
    refine yg (ya (yh (ya (sG ?_))))
    refine aL 6 (by simp [go_sem, hv] <;> rfl) ?_
    refine aF ymO ((yl9 v.p p (hvp v hvm) (by omega)) _ (by exact hgl)) (by simp [go_sem] <;> rfl) (by simp [go_sem, ipv]) ?_
    refine aT 1 ?_
    refine ye (yc (by first | rfl | (simp [go_sem, hm1, hm2, hm3, hm4, hpb, hck, hq1, hq2, hq3, hq4, yA, hv] <;> rfl)) (fun h26 => ?_) (fun h26 => ?_))
    ·refine yp (yj (yl (aS ?_)))
     exact yx (k + 1) σ.objs.length σ.toks.length 2 (⟨hlt, hn.succ hv (by have h := h26; simp at h; simpa using h)⟩) (by omega) ⟨by simp [go_sem], rfl, by simp, by simp, by simp [go_sem, hw], fun ob h => .inl (by simpa [go_sem, hm1, hm2, hm3, hm4, hpb, hck, hq1, hq2, hq3, hq4, yA, hv, hw] using h), by simp [go_sem]⟩
    ·have hvq : v.p = p := by have h := h26; simp at h; exact h
     have hfd := yc7 (p := fun v : Vr => decide (v.p = p)) hn hv (by simpa using hvq)
     rw [hmf, hfd] at hb1
     simp only [Option.map_some] at hb1
     obtain ⟨bo, hbo⟩ : ∃ z, z = YS v.nm v.env := ⟨_, rfl⟩
     rw [← hbo] at hb1
     have hbs := hbo.symm
     refine yg (sG ?_)
     refine aL 4 (by simp [go_sem, hv] <;> rfl) ?_
     refine aF yrw ((ypO v (hve v hvm)) _ (by exact hgl)) (by simp [go_sem] <;> rfl) (by simp [go_sem, yad]) ?_
     refine aL 6 (by simp [go_sem, hbs] <;> rfl) ?_
     refine ye (ya (sS ?_))
     refine yc (by first | rfl | (simp [go_sem, hm1, hm2, hm3, hm4, hpb, hck, hq1, hq2, hq3, hq4, yA, hv, hbs] <;> rfl)) (fun h27 => ?_) (fun h27 => ?_)
     ·have hbn : bo = none := by cases bo with | none => rfl | some b => (have h := h27; simp at h)
      subst hbn
      cases hb1
      have hq0 : ql = [] := by rcases hql with ⟨_, h⟩ | h; exact h; (cases ql with | nil => rfl | cons a l => (injection h with h; cases h))
      subst hq0
      refine sG ?_
      refine aT 2 ?_
      refine yn 86 (by first | rfl | (simp [go_sem, hm1, hm2, hm3, hm4, hpb, hck, hq1, hq2, hq3, hq4, yA, hv, hbs] <;> rfl)) (fun h28 => ?_) (fun h28 => ?_)
      ·refine aLG 2 86 true (by simp [go_sem] <;> rfl) ?_
       refine aT 2 ?_
       refine yn 90 (by first | rfl | (simp [go_sem, hm1, hm2, hm3, hm4, hpb, hck, hq1, hq2, hq3, hq4, yA, hv, hbs] <;> rfl)) (fun h29 => ?_) (fun h29 => ?_)
       ·refine yY 90 true true (by simp [go_sem]) rfl (by simp [go_sem]) rfl rfl (by simp [go_sem] <;> rfl) ygd (yem σ hσ) (by simp [go_sem] <;> rfl) (by simp [go_sem]) rfl rfl ?_
        refine aT 2 ?_
        refine ye (yd (yf (yi (yf (yf (yi (yf (eR ?_))))))))
        exact ⟨by simp [go_sem], by simp [go_sem]⟩
       ·first | (cases h29; done) | (simp at h29; done)
      ·first | (cases h28; done) | (simp at h28; done)
     ·obtain ⟨b, hbb⟩ : ∃ b, bo = some b := by cases bo with | none => (have h := h27; simp at h) | some b => exact ⟨b, rfl⟩
      subst hbb
      simp only [Option.map_some] at hb1
      cases hb1
      have hq0 : ql = b.p := by rcases hql with ⟨h, _⟩ | h; cases h; (injection h with h; exact (yj8 h).symm)
      subst hq0
      have hPa := yl9 (kr := kr) b.p b.p (hvb v hvm b hbo) (hvb v hvm b hbo)
      have hmi : mnI (some (b.p, b.i)) = b.i := rfl
      have hmp : mnP (some (b.p, b.i)) = b.p := rfl
      refine yg (sG ?_)
      refine aL 3 (by simp [go_sem, hmi] <;> rfl) ?_
      refine yn 95 (by first | rfl | (simp [go_sem, hm1, hm2, hm3, hm4, hpb, hck, hq1, hq2, hq3, hq4, yA, hv, hbs, hmi, hmp] <;> rfl)) (fun h30 => ?_) (fun h30 => ?_)
      ·refine aLG 1 95 true (by simp [go_sem] <;> rfl) ?_
       refine aT 2 ?_
       refine yn 98 (by first | rfl | (simp [go_sem, hm1, hm2, hm3, hm4, hpb, hck, hq1, hq2, hq3, hq4, yA, hv, hbs, hmi, hmp] <;> rfl)) (fun h31 => ?_) (fun h31 => ?_)
       ·refine aLG 4 98 true (by simp [go_sem] <;> rfl) ?_
        refine aT 2 ?_
        refine yn 104 (by first | rfl | (simp [go_sem, hm1, hm2, hm3, hm4, hpb, hck, hq1, hq2, hq3, hq4, yA, hv, hbs, hmi, hmp] <;> rfl)) (fun h32 => ?_) (fun h32 => ?_)
        ·refine aLG 3 104 true (by simp [go_sem] <;> rfl) ?_
         refine yY 104 true true (by simp [go_sem]) rfl (by simp [go_sem]) rfl rfl (by simp [go_sem] <;> rfl) ymO ((hPa) _ (by exact hgl)) (by simp [go_sem] <;> rfl) (by simp [go_sem, ipv]) rfl rfl ?_
         refine aT 2 ?_
         refine yn 110 (by first | rfl | (simp [go_sem, hm1, hm2, hm3, hm4, hpb, hck, hq1, hq2, hq3, hq4, yA, hv, hbs, hmi, hmp] <;> rfl)) (fun h33 => ?_) (fun h33 => ?_)
         ·refine yY 110 true true (by simp [go_sem]) rfl (by simp [go_sem]) rfl rfl (by simp [go_sem] <;> rfl) ygd (yem σ hσ) (by simp [go_sem] <;> rfl) (by simp [go_sem]) rfl rfl ?_
          refine aT 2 ?_
          refine ye (yd (yi (yf (yf (yi (yf (eR ?_)))))))
          exact ⟨by simp [go_sem], by simp [go_sem]⟩
         ·first | (cases h33; done) | (simp at h33; done)
        ·first | (cases h32; done) | (simp at h32; done)
       ·first | (cases h31; done) | (simp at h31; done)
      ·first | (cases h30; done) | (simp at h30; done)
   ·have hke : k = vs.length := by simp at h25; omega
    subst hke
    have hfd := ydt hn
    rw [hmf, hfd] at hb1
    cases hb1
    have hq0 : ql = [] := by rcases hql with ⟨_, h⟩ | h; exact h; cases h
    subst hq0
    refine yp (yj (yj (yl (sG ?_))))
    refine aT 2 ?_
    refine yn 114 (by first | rfl | (simp [go_sem, hm1, hm2, hm3, hm4, hpb, hck, hq1, hq2, hq3, hq4, yA] <;> rfl)) (fun h34 => ?_) (fun h34 => ?_)
    ·refine aLG 2 114 true (by simp [go_sem] <;> rfl) ?_
     refine aT 2 ?_
     refine yn 118 (by first | rfl | (simp [go_sem, hm1, hm2, hm3, hm4, hpb, hck, hq1, hq2, hq3, hq4, yA] <;> rfl)) (fun h35 => ?_) (fun h35 => ?_)
     ·refine yY 118 true true (by simp [go_sem]) rfl (by simp [go_sem]) rfl rfl (by simp [go_sem] <;> rfl) ygd (yem σ hσ) (by simp [go_sem] <;> rfl) (by simp [go_sem]) rfl rfl ?_
      refine aT 2 ?_
      refine ye (yd (eR ?_))
      exact ⟨by simp [go_sem], by simp [go_sem]⟩
     ·first | (cases h35; done) | (simp at h35; done)
    ·first | (cases h34; done) | (simp at h34; done)

end Go.Proofs.YtigideidmcmfbaaGreatDoor

namespace Go.Proofs.YtigideidmcmfbaaGreatDoor
open Go Go.Aw
variable {kr : KR}
theorem dty : DatumTy Tryz.prog 24 22 3 2 9 :=
  { und := ⟨_, _, _, _, Tryz.underlying24, rfl, rfl, rfl, rfl, rfl, rfl, rfl, rfl⟩, i := Tryz.underlying3, n := Tryz.underlying2, s := Tryz.underlying9, k := Tryz.underlying22, cD := by kernel_rfl, ci := by kernel_rfl, cn := by kernel_rfl, cs := by kernel_rfl, ck := by kernel_rfl }
theorem yq0 : Tryz.prog.globalNamed "pagoda/syntax.words" = some 0 := by kernel_rfl
theorem yrL : (Tryz.prog.globals[0]?).map (·.type) = some 116 := by kernel_rfl
theorem tPow : (Tryz.prog.globals[1]?).map (·.type) = some 233 := by kernel_rfl
theorem yoR : (Rows.laid_internal_strconv_uint64pow10 : DataW Unit) = Lib.tabData .u64 Lib.pow10Tab := by kernel_rfl
def wdS : List (List UInt8 × Int) := [([102, 110], 5), ([105, 102], 4), ([108, 101, 116], 6), ([113, 117, 111, 116, 101], 3), ([114, 101, 99], 7), ([115, 101, 113], 8), ([117, 112], 9)]
theorem ykY : (Rows.laid_pagoda_syntax_words : DataW Unit) = .map (wdS.map ybx) := by kernel_rfl
theorem yoi : wdS.Perm ycd := List.isPerm_iff.1 (by kernel_rfl)
set_option maxRecDepth 100000 in
theorem ypT {W : World} (h : laidMetH Tryz.prog [("math/bits.deBruijn32tab", Rows.laid_math_bits_deBruijn32tab), ("math/bits.deBruijn64tab", Rows.laid_math_bits_deBruijn64tab), ("internal/strconv.uint64pow10", Rows.laid_internal_strconv_uint64pow10), ("pagoda/syntax.words", Rows.laid_pagoda_syntax_words)] W) :
    ∃ kr : KR, ∀ n p, (n, p) ∈ (GL kr) → RP W.heap.size (fun _ _ => False) W p (.pointer (some ⟨n, 0, none⟩)) := by
  rw [MakeChecks.laidMetH_plain _ _ _ (by kernel_rfl)] at h
  obtain ⟨ps, ⟨_, _, _, _, _, _, _, _, _, _, ⟨_, _, _, _, _, _, _, _, _, _, ⟨g2, t2, cs2, f2, p2, q2, hg2, ht2, hv2, hd2, ⟨g7, t7, cs7, f7, p7, q7, hg7, ht7, hv7, hd7, _, _⟩, _⟩, _⟩, _⟩, _, _⟩ := h
  obtain rfl := Option.some.inj (yq0.symm.trans hg7)
  obtain rfl := Option.some.inj (gPow.symm.trans hg2)
  obtain rfl := Option.some.inj (yrL.symm.trans ht7)
  obtain rfl := Option.some.inj (tPow.symm.trans ht2)
  rw [ykY] at hd7
  obtain ⟨bw, krw, hc7, hrp7⟩ := ykT (S := fun _ _ => False) Tryz.underlying116 Tryz.underlying9 Tryz.underlying3 hd7 yoi
  rw [yoR] at hd2
  have hc2 := Lib.cells_of_tab Tryz.underlying233 Tryz.underlying141 (by kernel_rfl) (by kernel_rfl) hd2
  have hblk : ∃ e c, W.heap[(1 : Nat)]? = some (.cells (Lib.pow10Tab.map (Value.int .u64)).toArray e c) := by
    simp only [World.var?, gPow, Option.bind_some] at hv2
    split at hv2
    · rename_i cs e c hh
      cases hv2
      refine ⟨e, c, ?_⟩
      rw [hh, ← Array.toArray_toList (xs := cs2), hc2]
    · cases hv2
  obtain ⟨e2', c2, hblk⟩ := hblk
  have hcell7 : W.cell? ⟨0, 0, none⟩ = some (.map (some bw)) := by
    have := World.var?_cell hg7 hv7 0
    rw [Array.eq_one_of_toList hc7] at this
    simpa using this
  refine ⟨krw, fun n p hm => ?_⟩
  simp only [GL, List.cons_append, List.nil_append, List.mem_cons, Prod.mk.injEq, List.not_mem_nil, or_false] at hm
  rcases hm with ⟨rfl, rfl⟩ | ⟨rfl, rfl⟩
  · first | exact ym6 (ykG hcell7) hcell7 rfl hrp7 | exact RP.tab (by by_cases hlt : 1 < W.heap.size; exact hlt; rw [Array.getElem?_eq_none (by show W.heap.size ≤ _; omega)] at hblk; cases hblk) hblk
  · first | exact ym6 (ykG hcell7) hcell7 rfl hrp7 | exact RP.tab (by by_cases hlt : 1 < W.heap.size; exact hlt; rw [Array.getElem?_eq_none (by show W.heap.size ≤ _; omega)] at hblk; cases hblk) hblk

end Go.Proofs.YtigideidmcmfbaaGreatDoor

namespace Go.Proofs.YtigideidmcmfbaaGreatDoor
open Go Go.Aw
variable {kr : KR}
open Go.ChangeShapes Go.WideShapes Go.ChangeAt Go.WideMaps Go.WideElems Go.RowKit
theorem own : ownKnob Tryz.prog.godebug = none := by kernel_rfl
theorem yks : laidOutB Tryz.prog = true := by kernel_rfl
theorem yod (os : Os) (args : Array Value) : laidMetH Tryz.prog Rows.scopeMeansRow.laid ((World.doorLaid Tryz.prog 400 os).forCall (fun _ _ => 0) ⟨#[], args, []⟩).memory :=
  laidMetH_of_parts3 (fuel := 8) (laidMet_of_run' 8 (by kernel_rfl) (by kernel_rfl)) (by kernel_rfl) (by kernel_rfl)
theorem yfb {W : World} (hL : laidMetH Tryz.prog Rows.scopeMeansRow.laid W) {v0 v1 : Value} {d0 : D} {d1 : List Int} (h0 : RP W.heap.size (fun _ _ => False) W (enc d0) v0) (h1 : RP W.heap.size (fun _ _ => False) W (.slice (d1.map (.int .i64))) v1) (b1 : (∀ n, n ∈ d1 → -9223372036854775808 ≤ n ∧ n ≤ 9223372036854775807) ∧ d1.length ≤ 17592186044415) :
    Calls Tryz.prog 5 #[v0, v1] W fun r W' => r = .returned (.bool true) ∧ Below W.heap.size W W' := by
  obtain ⟨kr, hg⟩ := ypT hL
  refine (yjd (kr := kr) d0 d1 b1.1 b1.2 ⟨(GL kr), [], []⟩ rfl (g0 W) W [v0, v1] (inv0 hg) rfl (fun i x v hx hv => ?_)).mono ?_
  · match i with
    | 0 => simp at hx hv; subst hx hv; exact .pv h0
    | 1 => simp at hx hv; subst hx hv; exact .pv h1
    | i + 2 => simp at hx
  · rintro r W' ⟨v, x, σ', g', rfl, ⟨rfl, rfl⟩, _, hext, hra⟩
    rw [hra.pv_inv.bool_inv]
    exact ⟨rfl, ynK hext⟩
abbrev ynp : Value := .agg #[.int .i64 0, .int .i64 0, .string ⟨#[]⟩, .slice none 0 0]
set_option maxRecDepth 100000 in
theorem yew (os : Os) (started : os.Started) (H : Type) (enc' : TypeId × Value → H) :
    ReturnsInHanded {} Tryz.checked os 5 .any (fun w args => (Rows.scopeMeansSpec.pre enc' Tryz.prog Tryz.f5 [] false w args ∧ laidMetH Tryz.prog Rows.scopeMeansRow.laid w) ∧ sizedMet enc' Tryz.prog Tryz.f5 (OpenSpec.ofChange Rows.scopeMeansSpec) false w args)
      (Rows.scopeMeansSpec.post enc' Tryz.prog Tryz.f5 false true false false) := by
  refine returnsInHanded_of_change_and (C := Tryz.checked) (X := fun w _ => laidMetH Tryz.prog Rows.scopeMeansRow.laid w) (fun _ _ _ hh h => h.of_heap hh) own started (by kernel_rfl) Tryz.func5
    (ChangeSpec.witness_shaped (enc := enc') (C := Tryz.checked) (os := os) (X := fun w _ => laidMetH Tryz.prog Rows.scopeMeansRow.laid w) false (World.doorLaid Tryz.prog 400 os) #[ynp, .slice none 0 0] 8 rfl (World.shaped_of_RefB (by kernel_rfl) (by kernel_rfl)) (by kernel_rfl) (by kernel_rfl) (by kernel_rfl) (yod os _)) ?_
  intro W base args ds gs before hval0 hW _ hwt hL _
  have hW' := hW
  obtain ⟨p, q, hA0, hV, rfl, hfz, hnd⟩ := hW
  have hA : DataW.TrodAll enc' Tryz.prog W 0 (fun _ => true) true Tryz.f5.params.toList args.toList ds p := hA0
  rw [Tryz.params5] at hA
  obtain ⟨v0, v1, x0, x1, p0, p1, rfl, rfl, rfl, h0, h1⟩ := trodAll_two hA
  obtain ⟨rfl, rfl⟩ := trodVars_none hV
  clear hA0
  simp only [List.append_nil] at hW'
  obtain ⟨n0, t0⟩ := id h0
  obtain ⟨n1, t1⟩ := id h1
  obtain ⟨e0, u0, hc0, ho0, hr0⟩ := yle (S := fun _ _ => False) dty n0 _ _ t0
  have hv0 := yot hc0
  obtain ⟨e1, u1, hc1, hr1, hq1, hz1⟩ := ync (S := fun _ _ => False) Tryz.underlying44 Tryz.underlying3 (by kernel_rfl) t1
  have hv1 := yjr Tryz.underlying44 (hval0 1 44 v1 rfl rfl) hc1
  have w1 : e1.length ≤ 17592186044415 := by have := yoO (yfQ hwt (j := 1) (t := 44) (by kernel_rfl) rfl) Tryz.underlying44 (sz := 8) (by kernel_rfl) hz1; omega
  clear hval0
  have hlt := hW'.lt
  refine (yfb hL (hv0 ▸ yoA ho0 hr0) (hv1 ▸ hr1) ⟨fun n hn => yr6 (hq1 n hn), w1⟩).mono fun r W' ⟨hr, hb⟩ => ?_
  subst hr
  exact ⟨_, rfl, yhG (pa := p0 ++ p1) (pv := []) hW' (fun _ _ _ => trodAll_mk1 (shut_bool Tryz.underlying4 true))
    (fun sp hs => trodAll_mk2 (Trod_stays yks (by kernel_rfl) (of_decide_eq_true (by kernel_rfl)) h0 (fun x hx => hb.same (hlt x (by simp [hx]))) (fun x hx => hs x (by simp [hx]))) (Trod_stays yks (by kernel_rfl) (of_decide_eq_true (by kernel_rfl)) h1 (fun x hx => hb.same (hlt x (by simp [hx]))) (fun x hx => hs x (by simp [hx]))))
    (fun _ _ => rfl) (by simp) hb (ok_one (by kernel_rfl) rfl (okWide_bool_mk Tryz.underlying4 _))⟩
set_option maxHeartbeats 40000000 in
theorem ye4 : Rows.ScopeMeansSaid :=
  OpenClaim.holds_of_wide 5 Tryz.f5 rfl rfl rfl rfl rfl rfl rfl ⟨rfl, rfl, rfl, rfl, rfl⟩ rfl rfl rfl rfl rfl (by decide +kernel) Tryz.func5 (by unfold joinedFacts; simp only [Bool.and_eq_true]; (repeat' apply And.intro) <;> decide +kernel)
    (by decide +kernel) (by unfold Func.isWrapper; rw [if_neg (by decide +kernel)]; exact ⟨rfl, rfl⟩)
    (fun os started H enc _ => yew os started H enc)
set_option maxHeartbeats 40000000 in
theorem scopeMeansCard_holds : Rows.ScopeMeansCardSaid :=
  Claim7.holds_tied_plain_at .later [] [.data, .data, .data, .mapped] true (true, "5840acd6a9c41cc48ca146710c815c1ac9039654964f322dfef91e7ed1637ff4") false
    ye4 (fun _ h => by cases h) (by decide +kernel) (fun _ h => by cases h) scopeMeans_row_tie rfl ⟨rfl, rfl⟩ (by decide +kernel) rfl
    (fun f fn hf hfn => by
      obtain rfl : f = 5 := Option.some.inj ((show Tryz.prog.funcNamed "pagoda/pagodalaw06.ScopeMeans" = some 5 by decide +kernel).symm.trans hf) |>.symm
      obtain rfl : fn = Tryz.f5 := (Option.some.inj (Tryz.func5.symm.trans hfn)).symm
      exact ⟨by decide +kernel, fun j t ht => by
        rw [Tryz.params5] at ht
        rcases j with _ | _ | j
        · obtain rfl : 24 = t := by simpa using ht
          exact (show Tryz.prog.wantsStandIn 24 = false by decide +kernel)
        · obtain rfl : 44 = t := by simpa using ht
          exact (show Tryz.prog.wantsStandIn 44 = false by decide +kernel)
        · simp at ht⟩)
    (by decide +kernel)
end Go.Proofs.YtigideidmcmfbaaGreatDoor
