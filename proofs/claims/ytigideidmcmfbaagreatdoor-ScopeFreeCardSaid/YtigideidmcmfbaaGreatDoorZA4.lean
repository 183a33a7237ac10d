/- Part of the proof that the statement holds for every input that its row lets in: an own logic of abstract values over the given model, and laws of data and programs; no program is named in it. -/
import Derived.Test.YtigideidmcmfbaaGreatDoorZA3
import Derived.Test.YtigideidmcmfbaaGreatDoorZA2
import Derived.ProofKit
import Derived.LaidMore
import Derived.OpenShut
import Derived.Stop.Joined
import Derived.StringKeys
import Derived.Shelf.SlIter.Sorted
import Derived.Shelf.SlIter.Keys
import Derived.Shelf.SortM.Plain
import Derived.Shelf.SortM.SortNone
import Derived.LaidLaws
set_option linter.unusedSimpArgs false
set_option linter.unusedVariables false
namespace Go.Aw
open Go
/-! ### the shape of a datum -/
mutual
/-- A datum without its texts. -/
def D.er : D → D
 | .mk k n _ l => .mk k n ⟨#[]⟩ (D.ers l)
def D.ers : List D → List D
 | [] => []
 | d :: l => d.er :: D.ers l
end
theorem D.ers_map : ∀ l : List D, D.ers l = l.map D.er
 | [] => rfl
 | d :: l => by simp [D.ers, D.ers_map l]
theorem D.er_kids (d : D) : d.er.kids = d.kids.map D.er := by cases d; simp [D.er, D.kids, D.ers_map]
theorem D.sub_er : ∀ (p : List Int) (d : D), d.er.sub p = (d.sub p).map D.er
 | [], d => rfl
 | i :: p, d => by
  simp only [D.sub, D.er_kids]
  split
  ·rw [List.getElem?_map]
   cases d.kids[i.toNat]? with
   | none => rfl
   | some k => exact D.sub_er p k
  ·rfl
theorem D.sub_of_er {d e : D} {p : List Int} (h : d.er = e.er) {x : D} (hx : e.sub p = some x) : ∃ y, d.sub p = some y ∧ y.er = x.er := by
 have h1 := D.sub_er p d
 rw [h, D.sub_er p e, hx] at h1
 cases hd : d.sub p with
 | none => rw [hd] at h1; simp at h1
 | some y => rw [hd] at h1; simp at h1; exact ⟨y, rfl, h1.symm⟩
theorem D.er_setText : ∀ (p : List Int) (d : D) (s : ByteArray), (d.setText p s).er = d.er
 | [], .mk k n t l, s => rfl
 | i :: p, .mk k n t l, s => by
  simp only [D.setText]
  cases h : l[i.toNat]? with
  | none => rfl
  | some c =>
   simp only [D.er, D.ers_map, List.map_set, D.er_setText p c s]
   congr 1
   apply List.ext_getElem?
   intro j
   rw [List.getElem?_set]
   split
   ·subst_vars
    obtain ⟨h1, h2⟩ := List.getElem?_eq_some_iff.1 h
    simp [h1, h2]
   ·rfl
theorem zP : ∀ (d : D), msz d.er = msz d := by
 intro d
 induction d using D.ind with
 | _ k n t l ih =>
  rw [yf0, yf0, D.er_kids]
  show (if l.map D.er = [] then 0 else 1 + mszs (l.map D.er)) = if l = [] then 0 else 1 + mszs l
  have : ∀ l : List D, (∀ d, d ∈ l → msz d.er = msz d) → mszs (l.map D.er) = mszs l := by
   intro l
   induction l with
   | nil => intro _; rfl
   | cons d l ihl => intro h; simp only [List.map_cons, mszs]; rw [h d (by simp), ihl fun x hx => h x (by simp [hx])]
  rw [this l ih]
  simp
theorem yjx (d : D) (p : List Int) (s : ByteArray) : msz (d.setText p s) = msz d := by rw [← zP, D.er_setText, zP]
theorem yh7 : ∀ {l : List D} {m i : Nat} {x : D}, l[i]? = some x → (lays m l)[i]? = some (lay (m + mszs (l.take i)) x)
 | [], m, i, x, h => by simp at h
 | d :: l, m, 0, x, h => by simp at h; subst h; simp [lays, mszs]
 | d :: l, m, i + 1, x, h => by
  simp only [List.getElem?_cons_succ] at h
  simp only [lays, List.getElem?_cons_succ, List.take_succ_cons, mszs]
  rw [yh7 h, Nat.add_assoc]
theorem ymk : ∀ {l : List D} {m i : Nat}, l[i]? = none → (lays m l)[i]? = none := by
 intro l m i h
 rw [List.getElem?_eq_none_iff] at h ⊢
 rw [YP]; exact h
theorem yid : ∀ {l : List D} {m i : Nat} {x y : D}, l[i]? = some x → msz y = msz x → lays m (l.set i y) = (lays m l).set i (lay (m + mszs (l.take i)) y)
 | [], m, i, x, y, h, _ => by simp at h
 | d :: l, m, 0, x, y, h, hs => by
  simp at h; subst h
  simp [lays, mszs, hs]
 | d :: l, m, i + 1, x, y, h, hs => by
  simp only [List.getElem?_cons_succ] at h
  simp only [List.set_cons_succ, lays, List.take_succ_cons, mszs]
  rw [yid h hs, Nat.add_assoc]
/-- A text in a copy is the copy with the text. -/
theorem yem : ∀ (p : List Int) (d : D) (m : Nat) (s : ByteArray), (lay m d).setText p s = lay m (d.setText p s)
 | [], .mk k n t l, m, s => rfl
 | i :: p, .mk k n t l, m, s => by
  simp only [lay, AD.setText, D.setText]
  cases h : l[i.toNat]? with
  | none => rw [ymk h]; rfl
  | some c =>
   rw [yh7 h]
   simp only [lay]
   rw [yem p c _ s, yid h (yjx c p s)]
theorem ydY : ∀ (p : List Int) (d : D) (m : Nat) {x : D}, d.sub p = some x → ∃ u, (lay m d).sub p = some u ∧ u.dat = x := by
 intro p d m x h
 have := AD.sub_dat p (lay m d)
 rw [yce, h] at this
 cases hu : (lay m d).sub p with
 | none => rw [hu] at this; simp at this
 | some u => rw [hu] at this; simp at this; exact ⟨u, rfl, this.symm⟩
/-! ### the steps along a path -/
theorem AD.sub_take {t u : AD} {p : List Int} (h : t.sub p = some u) {k : Nat} {i : Int} (hi : p[k]? = some i) (ob : Nat × Nat) :
  ∃ v c, t.sub (p.take k) = some v ∧ 0 ≤ i ∧ v.kids[i.toNat]? = some c ∧ i < (v.kids.length : Int) ∧ v.kv = .sl v.o 0 v.kids.length ∧ AD.loc ob t (p.take (k + 1)) = (v.o, i.toNat * 4) := by
 have hp : p = p.take k ++ i :: p.drop (k + 1) := by
  have hk := (List.getElem?_eq_some_iff.1 hi).1
  conv => lhs; rw [← List.take_append_drop k p]
  rw [List.drop_eq_getElem_cons hk, (List.getElem?_eq_some_iff.1 hi).2]
 rw [hp, AD.sub_append, Option.bind_eq_some_iff] at h
 obtain ⟨v, hv, h⟩ := h
 simp only [AD.sub] at h
 split at h
 ·rename_i h0
  obtain ⟨c, hc, _⟩ := Option.bind_eq_some_iff.1 h
  have hlt := (List.getElem?_eq_some_iff.1 hc).1
  refine ⟨v, c, hv, h0, hc, by omega, ?_, ?_⟩
  ·cases v with
   | mk k n tx o l =>
    simp only [AD.kids] at hlt
    cases l with
    | nil => simp at hlt
    | cons a l => rfl
  ·rw [yA hi]
   exact AD.loc_snoc _ _ _ _ _ _ hv hc
 ·cases h
theorem AD.loc_load {σ : Store} {t u : AD} {ob : Nat} {p : List Int} (h : HasU σ (Ya ob t)) (hu : t.sub p = some u) :
  ∃ cells rest, σ.objs[(AD.loc (ob, 0) t p).1]? = some (.arr cells) ∧ cells.drop ((AD.loc (ob, 0) t p).2 + 3) = u.kv :: rest := by
 rw [z7] at h
 obtain ⟨cells, rest, h1, h2⟩ := AD.loc_at p t u ob [] [] h hu
 refine ⟨cells, rest, h1, ?_⟩
 rw [← List.drop_drop]
 simp only [List.length_nil] at h2
 rw [h2, AD.cells_eq]; rfl
/-! ### objects of several kinds -/
theorem yk6 {σ : Store} {A B : List (Nat × AObj)} (hn : ((A ++ B).map (·.1)).Nodup) (hl : ∀ q, q ∈ A → q.1 < σ.objs.length) (hB : HasU σ B) : updS σ A = updS σ (A ++ B) := by
 unfold updS
 congr 1
 rw [List.map_append] at hn
 have hd := List.nodup_append.1 hn
 refine (yay (by rw [List.map_append]; exact hn) (by rw [zl]) (fun q hq => ?_) (fun i hi => ?_)).symm
 ·rcases List.mem_append.1 hq with h | h
  ·exact Yz hd.1 h (hl q h)
  ·rw [zj (fun hm => hd.2.2 _ hm _ (List.mem_map.2 ⟨q, h, rfl⟩) rfl)]
   exact hB q h
 ·rw [List.map_append, List.mem_append, not_or] at hi
  rw [zj hi.1]
theorem yji {σ : Store} {A B : List (Nat × AObj)} (hn : ((A ++ B).map (·.1)).Nodup) (hl : ∀ q, q ∈ B → q.1 < σ.objs.length) (hA : HasU σ A) : updS σ B = updS σ (A ++ B) := by
 unfold updS
 congr 1
 rw [List.map_append] at hn
 have hd := List.nodup_append.1 hn
 refine (yay (by rw [List.map_append]; exact hn) (by rw [zl]) (fun q hq => ?_) (fun i hi => ?_)).symm
 ·rcases List.mem_append.1 hq with h | h
  ·rw [zj (fun hm => hd.2.2 _ (List.mem_map.2 ⟨q, h, rfl⟩) _ hm rfl)]
   exact hA q h
  ·exact Yz hd.2.1 h (hl q h)
 ·rw [List.map_append, List.mem_append, not_or] at hi
  rw [zj hi.2]
theorem yg5 {ob : Nat} {t : AD} {no nt : Nat} (h : ∀ i, i ∈ (Ya ob t).map (·.1) → i < no) : ∀ q, q ∈ Ya ob t → q.2.clo no nt 0 = true := by
 have hkv : ∀ (u : AD), (∀ q, q ∈ u.arrs → q.1 < no) → AV.clos no nt 0 u.cells = true := by
  intro u hu
  cases u with
  | mk k n tx o l =>
   cases l with
   | nil => rfl
   | cons a l =>
    have := hu (o, .arr ((a :: l).flatMap AD.cells)) (by simp [AD.arrs, Zl])
    simp only [AD.cells, kvOf, AV.clos, AV.clo, Bool.and_true, Bool.true_and, decide_eq_true_eq]
    exact this
 have hrow : ∀ (u : AD), (∀ q, q ∈ u.arrs → q.1 < no) → ∀ q, q ∈ u.arrs → q.2.clo no nt 0 = true := by
  intro u
  induction u using AD.ind with
  | _ k n tx o l ih =>
   intro hu q hq
   rw [AD.arrs, AD.arrss_flat] at hq hu
   rcases List.mem_append.1 hq with hq | hq
   ·cases l with
    | nil => simp [Zl] at hq
    | cons a l =>
     simp only [Zl, List.mem_singleton] at hq
     subst hq
     simp only [AObj.clo, AV.clos_iff]
     intro x hx
     obtain ⟨c, hc, hx⟩ := List.mem_flatMap.1 hx
     exact AV.clos_iff.1 (hkv c fun q hq2 => hu q (List.mem_append_right _ (List.mem_flatMap.2 ⟨c, hc, hq2⟩))) x hx
   ·obtain ⟨c, hc, hq⟩ := List.mem_flatMap.1 hq
    exact ih c hc (fun q hq2 => hu q (List.mem_append_right _ (List.mem_flatMap.2 ⟨c, hc, hq2⟩))) q hq
 intro q hq
 have ht : ∀ q, q ∈ t.arrs → q.1 < no := fun q hq => h q.1 (List.mem_map.2 ⟨q, List.mem_cons_of_mem _ hq, rfl⟩)
 rcases List.mem_cons.1 hq with rfl | hq
 ·exact hkv t ht
 ·exact hrow t ht q hq
/-! ### places of expressions and names -/
theorem D.sub_subs {d : D} {q : Sub × D} (h : q ∈ subs d) : d.sub q.1.p = some q.2 := by
 have one : ∀ (l : List D) (i : Nat) (x : D), l[i]? = some x → ∀ k n t, D.sub (.mk k n t l) [(i : Int)] = some x := by
  intro l i x hx k n t
  simp only [D.sub, D.kids]
  rw [if_pos (by omega), Int.toNat_natCast, hx]; rfl
 obtain ⟨k, n, t, l⟩ := d
 generalize hd : D.mk k n t l = d at *
 have hl : d.kids = l := by rw [← hd]; rfl
 have hone : ∀ (i : Nat) (x : D), l[i]? = some x → d.sub [(i : Int)] = some x := fun i x hx => by rw [← hd]; exact one l i x hx _ _ _
 by_cases h4 : yb d = 4 ∨ yb d = 8
 ·rw [zV h4] at h
  obtain ⟨i, x, hx, rfl⟩ := YD h
  rw [List.getElem?_drop, hl] at hx
  have := hone (1 + i) x hx
  rw [show sub1 i x = (⟨[((1 + i : Nat) : Int)], []⟩, x) by unfold sub1; congr 3; omega]
  exact this
 by_cases h5 : yb d = 5 ∨ yb d = 9
 ·rw [y4 h5, List.mem_singleton] at h
  subst h
  have hlen := (y3 d).1 (h5.elim .inl fun h => .inr (.inl h))
  rw [hl] at hlen
  have := hone 2 (d2 d.kids) (by rw [hl]; unfold d2; rw [List.getD_eq_getElem?_getD, List.getElem?_eq_getElem (by omega)]; rfl)
  exact this
 by_cases h6 : yb d = 6
 ·rw [yQ h6] at h
  have hlen := (y3 d).2.1 h6
  rw [hl] at hlen
  simp only [List.mem_cons, List.not_mem_nil, or_false] at h
  rcases h with rfl | rfl
  ·exact hone 2 (d2 d.kids) (by rw [hl]; unfold d2; rw [List.getD_eq_getElem?_getD, List.getElem?_eq_getElem (by omega)]; rfl)
  ·exact hone 3 (d.kids.getD 3 dnone) (by rw [hl]; rw [List.getD_eq_getElem?_getD, List.getElem?_eq_getElem (by omega)]; rfl)
 by_cases h7 : yb d = 7
 ·have hlen := (y3 d).1 (.inr (.inr h7))
  rw [hl] at hlen
  rw [y9 h7, List.mem_append, List.mem_singleton] at h
  rcases h with h | rfl
  ·obtain ⟨i, x, hx, rfl⟩ := YD h
   have h3 := (y3 d).2.2 h7 x (List.mem_of_getElem? hx)
   have hd1 : l[1]? = some (d1 d.kids) := by rw [hl]; unfold d1; rw [List.getD_eq_getElem?_getD, List.getElem?_eq_getElem (by omega)]; rfl
   have hd2 : x.kids[2]? = some (d2 x.kids) := by unfold d2; rw [List.getD_eq_getElem?_getD, List.getElem?_eq_getElem (by omega)]; rfl
   show d.sub [1, (i : Int), 2] = some (d2 x.kids)
   have e1 := hone 1 _ hd1
   rw [show ([1, (i : Int), 2] : List Int) = [((1 : Nat) : Int)] ++ [(i : Int), 2] from rfl, D.sub_append, e1]
   simp only [Option.bind_some, D.sub]
   rw [if_pos (by omega), Int.toNat_natCast, hx]
   simp only [Option.bind_some]
   rw [if_pos (by decide), show (2 : Int).toNat = 2 from rfl, hd2]; rfl
  ·exact hone 2 (d2 d.kids) (by rw [hl]; unfold d2; rw [List.getD_eq_getElem?_getD, List.getElem?_eq_getElem (by omega)]; rfl)
 by_cases h10 : yb d = 10
 ·rw [YC h10] at h
  obtain ⟨i, x, hx, rfl⟩ := YD h
  rw [hl] at hx
  exact hone i x hx
 ·exfalso
  have hs : subs d = [] := Yg (by cases shape d <;> omega)
  rw [hs] at h; simp at h
/-- The rest of the place of a name that a definition binds. -/
def whrL : List D → Int → Nat → List Int
 | [], n, _ => [1, n]
 | x :: l, n, i => if ((parS x).length : Int) ≤ n then whrL l (n - ((parS x).length : Int)) (i + 1) else [1, (i : Int), 1, n]
/-- The place of one of the names that an expression binds. -/
def zi (d : D) (n : Int) : List Int :=
 if (yb d == 6) = true then [1] else if (yb d == 7) = true then (if n < ((d1 d.kids).kids.length : Int) then [1, n, 0] else whrL (d1 d.kids).kids (n - ((d1 d.kids).kids.length : Int)) 0) else [1, n]
theorem yiA : ∀ {l : List D} {k : Nat} {x : D} {j : Nat} (i : Nat), l[k]? = some x → j < (parS x).length → whrL l ((((l.take k).map fun x => ((d1 x.kids).kids.length : Int)).sum) + (j : Int)) i = [1, ((i + k : Nat) : Int), 1, (j : Int)]
 | [], k, x, j, i, h, _ => by simp at h
 | y :: l, 0, x, j, i, h, hj => by
  simp at h; subst h
  simp only [whrL, List.take_zero, List.map_nil, List.sum_nil, Int.zero_add, Nat.add_zero]
  rw [if_neg (by omega)]
 | y :: l, k + 1, x, j, i, h, hj => by
  simp only [List.getElem?_cons_succ] at h
  have ih := yiA (i + 1) h hj
  simp only [whrL, List.take_succ_cons, List.map_cons, List.sum_cons]
  have hp : ((parS y).length : Int) = ((d1 y.kids).kids.length : Int) := by unfold parS; rw [List.length_map]
  have hnn : 0 ≤ ((l.take k).map fun x => ((d1 x.kids).kids.length : Int)).sum := by
   generalize l.take k = r
   induction r with
   | nil => simp
   | cons z r ih => simp only [List.map_cons, List.sum_cons]; omega
  rw [if_pos (by rw [hp]; omega), hp, show ((d1 y.kids).kids.length : Int) + ((l.take k).map fun x => ((d1 x.kids).kids.length : Int)).sum + (j : Int) - ((d1 y.kids).kids.length : Int) = ((l.take k).map fun x => ((d1 x.kids).kids.length : Int)).sum + (j : Int) by omega, ih]
  congr 2; omega
/-- At such a place the name stands. -/
theorem yl8 {d : D} {ns : List ByteArray} {n : Int} (h : NmOk d ns n) {j : Nat} {x : ByteArray} (hj : ns[j]? = some x) : 1 ≤ (zi d (n + (j : Int))).length ∧ (zi d (n + (j : Int))).length ≤ 4 ∧ ∃ u, d.sub (zi d (n + (j : Int))) = some u ∧ u.text = x := by
 have hone : ∀ (d : D) (i : Nat) (x : D), d.kids[i]? = some x → ∀ p, d.sub ((i : Int) :: p) = x.sub p := by
  intro d i x hx p
  simp only [D.sub]
  rw [if_pos (by omega), Int.toNat_natCast, hx]; rfl
 have hd1 : 1 < d.kids.length → d.kids[1]? = some (d1 d.kids) := fun h => by unfold d1; rw [List.getD_eq_getElem?_getD, List.getElem?_eq_getElem h]; rfl
 have h1 : ∀ p, 1 < d.kids.length → d.sub (1 :: p) = (d1 d.kids).sub p := fun p h => hone d 1 _ (hd1 h) p
 cases h with
 | own hk =>
  rw [Int.zero_add]
  rcases hk with hk | hk | hk | hk
  ·have hl := (y3 d).1 (.inl hk)
   have ho : ownS d = (d1 d.kids).kids.map D.text := by unfold ownS; rw [hk]; rfl
   rw [ho, List.getElem?_map] at hj
   obtain ⟨u, hu, rfl⟩ := Option.map_eq_some_iff.1 hj
   have hw : zi d (j : Int) = [1, (j : Int)] := by unfold zi; rw [hk]; rfl
   rw [hw]
   exact ⟨by simp, by simp, u, by rw [h1 _ (by omega), hone _ _ _ hu]; rfl, rfl⟩
  ·have hl := (y3 d).1 (.inr (.inl hk))
   have ho : ownS d = (d1 d.kids).kids.map D.text := by unfold ownS; rw [hk]; rfl
   rw [ho, List.getElem?_map] at hj
   obtain ⟨u, hu, rfl⟩ := Option.map_eq_some_iff.1 hj
   have hw : zi d (j : Int) = [1, (j : Int)] := by unfold zi; rw [hk]; rfl
   rw [hw]
   exact ⟨by simp, by simp, u, by rw [h1 _ (by omega), hone _ _ _ hu]; rfl, rfl⟩
  ·have hl := (y3 d).2.1 hk
   have ho : ownS d = [(d1 d.kids).text] := by unfold ownS; rw [hk]; rfl
   rw [ho] at hj
   have hw : zi d (j : Int) = [1] := by unfold zi; rw [hk]; rfl
   rw [hw]
   refine ⟨by simp, by simp, d1 d.kids, by rw [h1 _ (by omega)]; rfl, ?_⟩
   match j, hj with
   | 0, hj => simpa using hj
  ·have hl := (y3 d).1 (.inr (.inr hk))
   have ho : ownS d = (d1 d.kids).kids.map fun x => x.head.text := by unfold ownS; rw [hk]; rfl
   rw [ho, List.getElem?_map] at hj
   obtain ⟨y, hy, rfl⟩ := Option.map_eq_some_iff.1 hj
   have h3 := (y3 d).2.2 hk y (List.mem_of_getElem? hy)
   have hjl := (List.getElem?_eq_some_iff.1 hy).1
   have hw : zi d (j : Int) = [1, (j : Int), 0] := by
    unfold zi
    rw [hk, if_neg (by decide), if_pos (by decide), if_pos (by omega)]
   rw [hw]
   have hy0 : y.kids[0]? = some (y.kids[0]'(by omega)) := by simp
   refine ⟨by simp, by simp, y.head, ?_, rfl⟩
   rw [h1 _ (by omega), hone _ _ _ hy, show ([0] : List Int) = ((0 : Nat) : Int) :: [] from rfl, hone _ _ _ hy0, yaR hy0]; rfl
 | @par hk k y hy =>
  have hl := (y3 d).1 (.inr (.inr hk))
  have h3 := (y3 d).2.2 hk y (List.mem_of_getElem? hy)
  have hjl : j < (parS y).length := (List.getElem?_eq_some_iff.1 hj).1
  have hw : zi d (yV (d1 d.kids).kids k + (j : Int)) = [1, (k : Int), 1, (j : Int)] := by
   have h4 := Zp (d1 d.kids).kids k (Nat.le_of_lt (List.getElem?_eq_some_iff.1 hy).1)
   have hnn : 0 ≤ (((d1 d.kids).kids.take k).map fun x => ((d1 x.kids).kids.length : Int)).sum := by
    generalize (d1 d.kids).kids.take k = r
    induction r with
    | nil => simp
    | cons z r ih => simp only [List.map_cons, List.sum_cons]; omega
   unfold zi
   rw [hk, if_neg (by decide), if_pos (by decide), if_neg (by unfold yV; omega)]
   have := yiA 0 hy hjl
   rw [Nat.zero_add] at this
   rw [← this]
   congr 1
   unfold yV; omega
  rw [hw]
  have hy1 : y.kids[1]? = some (d1 y.kids) := by unfold d1; rw [List.getD_eq_getElem?_getD, List.getElem?_eq_getElem (by omega)]; rfl
  unfold parS at hj
  rw [List.getElem?_map] at hj
  obtain ⟨u, hu, rfl⟩ := Option.map_eq_some_iff.1 hj
  refine ⟨by simp, by simp, u, ?_, rfl⟩
  rw [h1 _ (by omega), hone _ _ _ hy, show ([1, (j : Int)] : List Int) = ((1 : Nat) : Int) :: [(j : Int)] from rfl, hone _ _ _ hy1, hone _ _ _ hu]; rfl
/-! ### the renaming -/
section
variable {St : Type} (to : List Int → Int → ByteArray → St → ByteArray × St)
def ybN (d : D) (p : List Int) (n : Int) (acc : List ByteArray × (D × St)) (q : ByteArray × Nat) : List ByteArray × (D × St) :=
 (acc.1 ++ [(to p (n + (q.2 : Int)) q.1 acc.2.2).1], (acc.2.1.setText (p ++ zi d (n + (q.2 : Int))) (to p (n + (q.2 : Int)) q.1 acc.2.2).1, (to p (n + (q.2 : Int)) q.1 acc.2.2).2))
/-- New names, one after the other, each written in its place. -/
def nmK (d : D) (p : List Int) (ns : List ByteArray) (n : Int) (s : D × St) (k : Nat) : List ByteArray × (D × St) := ((ns.take k).zipIdx).foldl (ybN to d p n) ([], s)
def namR (d : D) (p : List Int) (ns : List ByteArray) (n : Int) (s : D × St) : List ByteArray × (D × St) := nmK to d p ns n s ns.length
def varR (_d : D) (p : List Int) (b : Option ByteArray) (s : D × St) : D × St := match b with
 | some x => (s.1.setText p x, s.2)
 | none => s
theorem ycR {d : D} {p : List Int} {ns : List ByteArray} {n : Int} {s : D × St} {k : Nat} {x : ByteArray} (h : ns[k]? = some x) : nmK to d p ns n s (k + 1) = ybN to d p n (nmK to d p ns n s k) (x, k) := by
 have hk := (List.getElem?_eq_some_iff.1 h).1
 unfold nmK
 rw [yA h, List.zipIdx_append, List.foldl_append]
 have e : ([x] : List ByteArray).zipIdx (0 + (ns.take k).length) = [(x, k)] := by simp; omega
 rw [e]; rfl
theorem yj9 (d : D) (p : List Int) (ns : List ByteArray) (n : Int) (s : D × St) : ∀ k, k ≤ ns.length → (nmK to d p ns n s k).1.length = k := by
 intro k
 induction k with
 | zero => intro _; rfl
 | succ k ih =>
  intro hk
  have hx : ns[k]? = some (ns[k]'(by omega)) := by simp
  rw [ycR to hx, ybN]
  simp [ih (by omega)]
theorem yfy (d : D) (p : List Int) (ns : List ByteArray) (n : Int) (s : D × St) : ∀ k, k ≤ ns.length → (nmK to d p ns n s k).2.1.er = s.1.er := by
 intro k
 induction k with
 | zero => intro _; rfl
 | succ k ih =>
  intro hk
  have hx : ns[k]? = some (ns[k]'(by omega)) := by simp
  rw [ycR to hx, ybN]
  simp only [D.er_setText]
  exact ih (by omega)
theorem yku (d : D) (p : List Int) (ns : List ByteArray) (n : Int) (s : D × St) (GT : Nat → St → Prop) (hg : ∀ p i x m s, GT m s → GT (m + 1) (to p i x s).2) (m : Nat) (h : GT m s.2) : ∀ k, k ≤ ns.length → GT (m + k) (nmK to d p ns n s k).2.2 := by
 intro k
 induction k with
 | zero => intro _; exact h
 | succ k ih =>
  intro hk
  have hx : ns[k]? = some (ns[k]'(by omega)) := by simp
  rw [ycR to hx, ybN]
  exact hg _ _ _ _ _ (ih (by omega))
end
/-- What stands in a path is small. -/
theorem yd7 : ∀ {p : List Int} {e d : D}, e.size ≤ 100000000 → e.sub p = some d → ∀ j, j ∈ p → 0 ≤ j ∧ j ≤ 1000000000
 | [], e, d, _, _, j, hj => by simp at hj
 | i :: p, e, d, he, h, j, hj => by
  simp only [D.sub] at h
  split at h
  ·rename_i hi
   cases hx : e.kids[i.toNat]? with
   | none => rw [hx] at h; cases h
   | some x =>
    rw [hx] at h
    simp only [Option.bind_some] at h
    have hm := List.mem_of_getElem? hx
    have h1 := D.size_kid_lt hm
    have h2 := (List.getElem?_eq_some_iff.1 hx).1
    have h3 := D.kids_length_lt e
    rcases List.mem_cons.1 hj with rfl | hj
    ·exact ⟨hi, by omega⟩
    ·exact yd7 (by omega) h j hj
  ·cases h
/-- What is known of the function that makes new names. -/
structure ToH (P : Program) (G : List (Nat × PV)) {St : Type} (ms : St → List (Nat × AObj)) (mk : List Nat) (X : List (Nat × AObj)) (tf : FuncId) (tc : List AV) (to : List Int → Int → ByteArray → St → ByteArray × St) (GT : Nat → St → Prop) : Prop where
 hmk : ∀ s, (ms s).map (·.1) = mk
 hnd : mk.Nodup
 hX : ∀ q, q ∈ X → q.1 ∉ mk
 ct : Callable P tf
 nlt : AV.noLs tc = true
 hcl : ∀ s no nt, (∀ i, i ∈ mk → i < no) → ∀ q, q ∈ ms s → q.2.clo no nt 0 = true
 gt : ∀ p i x m s, GT m s → GT (m + 1) (to p i x s).2
 ht : ∀ p i x m s σ, p.length ≤ 400000000 → (∀ j, j ∈ p → 0 ≤ j ∧ j ≤ 1000000000) → 0 ≤ i → i ≤ 1000000000 → GT m s → m + 1 ≤ 1000000000 → σ.gl = G → HasU σ (ms s) → HasU σ X →
  ACalls P tf ([.pv (wPV p), .pv (.int .i64 i), .pv (.str x)] ++ tc) σ fun r σ' => r = .pv (.str (to p i x s).1) ∧ σ' = updS σ (ms (to p i x s).2)
/-- The copy, and what the new names are made of. -/
def UR {St : Type} (ob m0 : Nat) (ms : St → List (Nat × AObj)) (s : D × St) : List (Nat × AObj) := Ya ob (lay m0 s.1) ++ ms s.2
theorem ybU {St : Type} {ob m0 : Nat} {ms : St → List (Nat × AObj)} {mk : List Nat} (h : ∀ s, (ms s).map (·.1) = mk) (s : D × St) : (UR ob m0 ms s).map (·.1) = ob :: List.range' m0 (msz s.1) ++ mk := by
 unfold UR
 rw [List.map_append, h, ZY, YA]
section
variable {St : Type} {ob m0 : Nat} {ms : St → List (Nat × AObj)} {mk : List Nat} {σ : Store} {s : D × St}
theorem yf4 (h : HasU σ (UR ob m0 ms s)) : HasU σ (Ya ob (lay m0 s.1)) := fun q hq => h q (List.mem_append_left _ hq)
theorem ye1 (hmk : ∀ s, (ms s).map (·.1) = mk) (hn : (ob :: List.range' m0 (msz s.1) ++ mk).Nodup) (t : D) (st : St) (he : t.er = s.1.er) : ((UR ob m0 ms (t, st)).map (·.1)).Nodup := by
 rw [ybU hmk]
 show (ob :: List.range' m0 (msz t) ++ mk).Nodup
 rw [← zP, he, zP]; exact hn
theorem ypi (hmk : ∀ s, (ms s).map (·.1) = mk) (h : HasU σ (UR ob m0 ms s)) (t : D) (st : St) (he : t.er = s.1.er) : ∀ q, q ∈ UR ob m0 ms (t, st) → q.1 < σ.objs.length := by
 intro q hq
 have hm : q.1 ∈ (UR ob m0 ms (t, st)).map (·.1) := List.mem_map.2 ⟨q, hq, rfl⟩
 have e : (UR ob m0 ms (t, st)).map (·.1) = (UR ob m0 ms s).map (·.1) := by
  rw [ybU hmk, ybU hmk]
  show ob :: List.range' m0 (msz t) ++ mk = _
  rw [← zP, he, zP]
 rw [e] at hm
 obtain ⟨q', h', e'⟩ := List.mem_map.1 hm
 rw [← e']; exact h.lt h'
/-- Something else than the copy turns. -/
theorem ynw (hmk : ∀ s, (ms s).map (·.1) = mk) (hn : (ob :: List.range' m0 (msz s.1) ++ mk).Nodup) (h : HasU σ (UR ob m0 ms s)) (st : St) : updS σ (ms st) = updS σ (UR ob m0 ms (s.1, st)) :=
 yji (ye1 hmk hn s.1 st rfl) (fun q hq => ypi hmk h s.1 st rfl q (List.mem_append_right _ hq)) (fun q hq => h q (List.mem_append_left _ hq))
/-- The copy turns. -/
theorem yqz (hmk : ∀ s, (ms s).map (·.1) = mk) (hn : (ob :: List.range' m0 (msz s.1) ++ mk).Nodup) (h : HasU σ (UR ob m0 ms s)) (t : D) (he : t.er = s.1.er) : updS σ (Ya ob (lay m0 t)) = updS σ (UR ob m0 ms (t, s.2)) :=
 yk6 (ye1 hmk hn t s.2 he) (fun q hq => ypi hmk h t s.2 he q (List.mem_append_left _ hq)) (fun q hq => h q (List.mem_append_right _ hq))
end
section
variable {P : Program} {ty : TyT} {σ0 : Store} {N : Nat} {s : St} {o : Oper} {ops : Array Oper} {os : List Oper} {K : St → Prop} {σ : Store}
/-- A text is written at a place of the copy. -/
theorem ydb {Sg : Type} {ob m0 : Nat} {ms : Sg → List (Nat × AObj)} {mk : List Nat} {x : D × Sg} {p : List Int} {u : D} {b : ByteArray} (hmk : ∀ s, (ms s).map (·.1) = mk) (hn : (ob :: List.range' m0 (msz x.1) ++ mk).Nodup) (hU : HasU s.σ (UR ob m0 ms x)) (hu : x.1.sub p = some u)
  (hty : TyOk P ty) {t : TypeId} {pp y : Operand} {ti : TyI} (hg : o.guard = none) (ho : o.op = .store t pp y) (hdst : o.dst = none) (hti : ty t = some ti) (h1 : ti.size = 1)
  (hp : ev s pp = .ptr (AD.loc (ob, 0) (lay m0 x.1) p).1 ((AD.loc (ob, 0) (lay m0 x.1) p).2 + 2)) (hy : ev s y = .pv (.str b)) (k : yz P σ0 N ops os K ⟨s.T, s.L, updS s.σ (UR ob m0 ms (x.1.setText p b, x.2))⟩) : yz P σ0 N ops (o :: os) K s := by
 obtain ⟨v, hv, _⟩ := ydY p x.1 m0 hu
 have hUt := yf4 hU
 have hnt := ye1 hmk hn x.1 x.2 rfl
 unfold UR at hnt
 rw [List.map_append] at hnt
 have hw := AD.write b p (lay m0 x.1) v ob [] [] (by rw [← z7]; exact hUt) (by rw [← z7]; exact (List.nodup_append.1 hnt).1) hv
 obtain ⟨cells, k1, k2, k3⟩ := hw
 simp only [List.length_nil] at k1 k2 k3
 refine YH hg (yaA hty (i := (AD.loc (ob, 0) (lay m0 x.1) p).1) (off := (AD.loc (ob, 0) (lay m0 x.1) p).2 + 2) (cs := cells) (ds := [.pv (.str b)]) ho hp hti k1 (by rw [hy]; rfl) rfl (by rw [h1]; rfl) (by simp; omega) (by rw [hdst]; rfl) ?_)
 rw [hdst]
 simp only [St.put]
 rw [k3, ← z7, yem, yqz hmk hn hU _ (D.er_setText _ _ _)]
 exact k
end
theorem ykN {d : D} {ns : List ByteArray} {n : Int} (h : NmOk d ns n) : 0 ≤ n ∧ n + (ns.length : Int) ≤ 2 * (d.size : Int) := by
 cases h with
 | own hk => have := ya7 d; omega
 | @par hk k x hx =>
  have hl := (y3 d).1 (.inr (.inr hk))
  have h1 := Zp (d1 d.kids).kids k (Nat.le_of_lt (List.getElem?_eq_some_iff.1 hx).1)
  have h2 := Zp (d1 d.kids).kids (k + 1) (by have := (List.getElem?_eq_some_iff.1 hx).1; omega)
  have h3 := yaz hx
  have hm : d1 d.kids ∈ d.kids := YB (n := 1) (by omega)
  have h4 := D.size_kid_lt hm
  have h5 := D.kids_length_lt (d1 d.kids)
  have h6 := D.size_kids (d1 d.kids)
  omega
theorem ylD {g : List (Nat × PV)} {tk : List Tok} {σ : Store} {U V : List (Nat × AObj)} {ks : List Nat} (hu : U.map (·.1) = ks) (hv : V.map (·.1) = ks) (hn : ks.Nodup) : updS ⟨g, (updS σ U).objs, tk⟩ V = updS ⟨g, σ.objs, tk⟩ V := by
 unfold updS
 simp only
 rw [yav (by rw [hv]; exact hn) (by rw [hu, hv]; exact fun _ h => h)]
/-- What a renaming knows: the datum, where the copy lies, the boxes of the functions. -/
structure RnH (P : Program) (G : List (Nat × PV)) {Sg : Type} (atf : FuncId) (e : D) (ob m0 oto oat : Nat) (XR : List (Nat × AObj)) (ms : Sg → List (Nat × AObj)) (mk : List Nat) (X : List (Nat × AObj)) (tf : FuncId) (tc : List AV) (to : List Int → Int → ByteArray → Sg → ByteArray × Sg) (GT : Nat → Sg → Prop) : Prop where
 T : ToH P G ms mk X tf tc to GT
 hn : (ob :: List.range' m0 (msz e) ++ mk).Nodup
 hX : ∀ q, q ∈ XR → q.1 ∉ ob :: List.range' m0 (msz e) ++ mk
 hXX : ∀ q, q ∈ X → q ∈ XR
 hto : (oto, .box [.func (.func tf) tc]) ∈ XR
 hat : (oat, .box [.func (.func atf) [.ptr ob 0]]) ∈ XR
 hes : e.size ≤ 100000000
section
variable {P : Program} {G : List (Nat × PV)} {Sg : Type} {atf : FuncId} {e : D} {ob m0 oto oat : Nat} {XR : List (Nat × AObj)} {ms : Sg → List (Nat × AObj)} {mk : List Nat} {X : List (Nat × AObj)} {tf : FuncId} {tc : List AV} {to : List Int → Int → ByteArray → Sg → ByteArray × Sg} {GT : Nat → Sg → Prop} (H : RnH P G atf e ob m0 oto oat XR ms mk X tf tc to GT)
include H
theorem RnH.keys {t : D} (he : t.er = e.er) (st : Sg) : (UR ob m0 ms (t, st)).map (·.1) = ob :: List.range' m0 (msz e) ++ mk := by
 rw [ybU H.T.hmk]
 show ob :: List.range' m0 (msz t) ++ mk = _
 rw [← zP, he, zP]
theorem RnH.nd {t : D} (he : t.er = e.er) : (ob :: List.range' m0 (msz t) ++ mk).Nodup := by rw [← zP, he, zP]; exact H.hn
theorem RnH.keys' {s : D × Sg} (he : s.1.er = e.er) : (UR ob m0 ms s).map (·.1) = ob :: List.range' m0 (msz e) ++ mk := H.keys he s.2
theorem RnH.lt {σ : Store} {s : D × Sg} (he : s.1.er = e.er) (h : HasU σ (UR ob m0 ms s)) {i : Nat} (hi : i ∈ ob :: List.range' m0 (msz e) ++ mk) : i < σ.objs.length := by
 rw [← H.keys' he] at hi
 obtain ⟨q, hq, rfl⟩ := List.mem_map.1 hi
 exact h.lt hq
theorem RnH.has {σ : Store} {s s' : D × Sg} (he : s.1.er = e.er) (he' : s'.1.er = e.er) (h : HasU σ (UR ob m0 ms s)) : HasU (updS σ (UR ob m0 ms s')) (UR ob m0 ms s') :=
 ycG (by rw [H.keys' he']; exact H.hn) (fun q hq => H.lt he h (by rw [← H.keys' he']; exact List.mem_map.2 ⟨q, hq, rfl⟩))
theorem RnH.ne {σ : Store} {s' : D × Sg} (he' : s'.1.er = e.er) {i : Nat} (h : i ∉ ob :: List.range' m0 (msz e) ++ mk) : (updS σ (UR ob m0 ms s')).objs[i]? = σ.objs[i]? := yb7 (by rw [H.keys' he']; exact h)
theorem RnH.hasX {σ : Store} {s' : D × Sg} (he' : s'.1.er = e.er) (h : HasU σ XR) : HasU (updS σ (UR ob m0 ms s')) XR := fun q hq => by
 rw [H.ne he' (H.hX q hq)]; exact h q hq
theorem RnH.clo {s : D × Sg} (he : s.1.er = e.er) {no nt : Nat} (h : ∀ i, i ∈ ob :: List.range' m0 (msz e) ++ mk → i < no) : ∀ q, q ∈ UR ob m0 ms s → q.2.clo no nt 0 = true := by
 have hk := H.keys' he
 unfold UR at hk
 rw [List.map_append, H.T.hmk] at hk
 have hk := List.append_cancel_right hk
 intro q hq
 rcases List.mem_append.1 hq with hq | hq
 ·refine yg5 (fun i hi => h i ?_) q hq
  rw [hk] at hi; exact List.mem_append_left _ hi
 ·exact H.T.hcl _ _ _ (fun i hi => h i (List.mem_append_right _ hi)) q hq
/-- After a new name was made. -/
theorem RnH.afterTo {σ : Store} {s0 s : D × Sg} (he : s0.1.er = e.er) (hs : s.1.er = e.er) (h : HasU σ (UR ob m0 ms s0)) (st : Sg) : updS (updS σ (UR ob m0 ms s)) (ms st) = updS σ (UR ob m0 ms (s.1, st)) := by
 rw [ynw H.T.hmk (H.nd hs) (H.has he hs h) st]
 exact yfT (H.keys' hs) (H.keys hs st) H.hn
end
open Classical in
/-- The same, whatever the shape. -/
noncomputable def UE {Sg : Type} (e : D) (ob m0 : Nat) (ms : Sg → List (Nat × AObj)) (s : D × Sg) : List (Nat × AObj) := if s.1.er = e.er then UR ob m0 ms s else UR ob m0 ms (e, s.2)
theorem yd8 {Sg : Type} {e : D} {ob m0 : Nat} {ms : Sg → List (Nat × AObj)} {s : D × Sg} (h : s.1.er = e.er) : UE e ob m0 ms s = UR ob m0 ms s := by unfold UE; rw [if_pos h]
/-- What a renaming leaves. -/
def zO {Sg : Type} (to : List Int → Int → ByteArray → Sg → ByteArray × Sg) (e : D) (st : Sg) : D × Sg := wk (namR to) varR e [] [] (e, st)
section
variable {P : Program} {G : List (Nat × PV)} {Sg : Type} {atf nf vf : FuncId} {e : D} {ob m0 oto oat ow : Nat} {XR : List (Nat × AObj)} {ms : Sg → List (Nat × AObj)} {mk : List Nat} {X : List (Nat × AObj)} {tf : FuncId} {tc : List AV} {to : List Int → Int → ByteArray → Sg → ByteArray × Sg} {GT : Nat → Sg → Prop} (H : RnH P G atf e ob m0 oto oat XR ms mk X tf tc to GT)
include H
theorem RnH.walk (hw : (ow, .box [.func (.func nf) [.ptr oto 0, .ptr oat 0], .func (.func vf) [.ptr oat 0]]) ∈ XR) (cn : Callable P nf) (cv : Callable P vf)
  (hn : ∀ (d : D) (p : List Int) (ns : List ByteArray) (n : Int) (m : Nat) (s : D × Sg) (σ : Store), d.size ≤ 100000000 → p.length ≤ 400000000 → s.1.er = e.er → GT m s.2 → m + ns.length ≤ 1000000000 → e.sub p = some d → NmOk d ns n → σ.gl = G → HasU σ (UR ob m0 ms s) → HasU σ XR →
   ACalls P nf [.pv (enc d), .pv (wPV p), .pv (.slice (ns.map .str)), .pv (.int .i64 n), .ptr oto 0, .ptr oat 0] σ fun r σ' => r = .pv (.slice ((namR to d p ns n s).1.map .str)) ∧ σ' = updS σ (UR ob m0 ms (namR to d p ns n s).2))
  (hv : ∀ (d : D) (p : List Int) (s : D × Sg) (σ : Store), d.size ≤ 100000000 → p.length ≤ 400000000 → s.1.er = e.er → e.sub p = some d → σ.gl = G → HasU σ (UR ob m0 ms s) → HasU σ XR → ∀ b : Option ByteArray,
   ACalls P vf [.pv (enc d), .pv (wPV p), .pv ((b.map PV.str).getD (.str ⟨#[]⟩)), .pv (.bool b.isSome), .ptr oat 0] σ fun r σ' => r = .tuple [] ∧ σ' = updS σ (UR ob m0 ms (varR d p b s))) :
  WkH P G PV.str (.str ⟨#[]⟩) (UE e ob m0 ms) (ob :: List.range' m0 (msz e) ++ mk) XR ow nf [.ptr oto 0, .ptr oat 0] vf [.ptr oat 0] (namR to) varR (fun d p => e.sub p = some d) (fun m s => s.1.er = e.er ∧ GT m s.2) := by
 have hvE : ∀ (d : D) (p : List Int) (b : Option ByteArray) (s : D × Sg), s.1.er = e.er → (varR d p b s).1.er = e.er := by
  intro d p b s hs
  cases b with
  | none => exact hs
  | some b => exact (D.er_setText _ _ _).trans hs
 have hnE : ∀ (d : D) (p : List Int) (ns : List ByteArray) (n : Int) (s : D × Sg), s.1.er = e.er → (namR to d p ns n s).2.1.er = e.er := fun d p ns n s hs => (yfy to d p ns n s ns.length (Nat.le_refl _)).trans hs
 refine ⟨fun s => ?_, H.hn, H.hX, hw, cn, cv, rfl, rfl, fun s no nt h q hq => ?_, fun d p q ho hq => ?_, fun d p ns n s => yj9 to d p ns n s ns.length (Nat.le_refl _), fun d p ns n m s ho hg hm => ⟨hnE d p ns n s hg.1, yku to d p ns n s GT H.T.gt m hg.2 ns.length (Nat.le_refl _)⟩, fun d p b m s ho hg h2 => ⟨hvE d p b s hg.1, ?_⟩, fun d p ns n m s σ h1 h2 ho hg hm hnm hgl hU hX => ?_, fun d p b m s σ h1 h2 ho hg hk hgl hU hX => ?_⟩
 ·unfold UE
  split
  ·exact H.keys' ‹_›
  ·exact H.keys' (s := (e, s.2)) rfl
 ·unfold UE at hq
  split at hq
  ·exact H.clo ‹_› h q hq
  ·exact H.clo (s := (e, s.2)) rfl h q hq
 ·rw [D.sub_append, ho]; exact D.sub_subs hq
 ·cases b <;> exact hg.2
 ·rw [yd8 hg.1] at hU
  rw [yd8 (hnE d p ns n s hg.1)]
  exact hn d p ns n m s σ h1 h2 hg.1 hg.2 hm ho hnm hgl hU hX
 ·rw [yd8 hg.1] at hU
  rw [yd8 (hvE d p b s hg.1)]
  exact hv d p s σ h1 h2 hg.1 ho hgl hU hX b
end
/-- Another state that tells less. -/
theorem ycT {ρ : Option Nat} {P : Program} {σ0 : Store} {N : Nat} {s : St} {Q : Exit → St → Prop} {c : Code} (nl : Nat) (s2 : St) (h : WeakJL nl s s2) (k : AWpR ρ P σ0 N c Q s2) : AWpR ρ P σ0 N c Q s := by
 rintro g0 w0 a w ⟨g, r⟩
 exact k g0 w0 a w (h.rel r)
theorem yiS {α : Type} (l : List α) (x y : α) : (l ++ [x]).set l.length y = l ++ [y] := by simp
/-- Objects up to a number are kept, what lies behind is let go. -/
theorem ACalls.keepTo {P : Program} {f : FuncId} {args : List AV} {σ : Store} {r0 : AV} {Y : Store} (no : Nat) (h0 : σ.objs.length ≤ no) (hc : ∀ ob, ob ∈ Y.objs → ob ∈ σ.objs ∨ ob.clo no σ.toks.length 0 = true)
  (h : ACalls P f args σ fun r σ' => WVt no σ.toks.length 0 r r0 ∧ σ'.cut no σ.toks.length = Y) : ACalls P f args σ fun r σ' => r = r0 ∧ σ' = Y := by
 refine h.less fun r σ' ⟨h1, h2⟩ => ⟨_, _, r0, h1, h0, Nat.le_refl _, fun ob hob => ?_, rfl, h2⟩
 have : σ'.objs.take no = Y.objs := congrArg Store.objs h2
 rw [this] at hob
 exact hc ob hob
theorem yaJ {α : Type} {X Y : List α} {b : α} {n : Nat} (h : X.length = n) : (X ++ b :: Y)[n]? = some b := by subst h; simp
theorem ypm {σ : Store} {A : List AObj} {bx : AObj} {e : D} {Sg : Type} {ms : Sg → List (Nat × AObj)} {mk : List Nat} (hA : A = σ.objs ++ bx :: lobjs (σ.objs.length + 1) e) (hmk : ∀ s, (ms s).map (·.1) = mk) (hnd : mk.Nodup) {st : Sg} (hms : HasU σ (ms st)) (B : List AObj) (tk : List Tok) (s : D × Sg) (hs : s.1.er = e.er) (C : List AV) :
  updS ⟨σ.gl, A ++ AObj.arr C :: B, tk⟩ (UR A.length (σ.objs.length + 1) ms s) = ⟨σ.gl, ((updS σ (ms s.2)).objs ++ bx :: lobjs (σ.objs.length + 1) s.1) ++ AObj.arr (lay (σ.objs.length + 1) s.1).cells :: B, tk⟩ := by
 have hl : A.length = σ.objs.length + 1 + msz e := by rw [hA]; simp [Y9]; omega
 have hsz : msz s.1 = msz e := by rw [← zP, hs, zP]
 have hlt : ∀ i, i ∈ mk → i < σ.objs.length := by
  intro i hi
  rw [← hmk st] at hi
  obtain ⟨q, hq, rfl⟩ := List.mem_map.1 hi
  exact hms.lt hq
 have hk := ybU (ob := A.length) (m0 := σ.objs.length + 1) hmk s
 have hn : (A.length :: List.range' (σ.objs.length + 1) (msz s.1) ++ mk).Nodup := by
  refine List.nodup_append.2 ⟨List.nodup_cons.2 ⟨?_, List.nodup_range'⟩, hnd, ?_⟩
  ·rw [List.mem_range'_1]; omega
  ·intro a ha b hb e2
   subst e2
   have := hlt a hb
   rcases List.mem_cons.1 ha with h | h
   ·omega
   ·rw [List.mem_range'_1] at h; omega
 have hlen : (updS σ (ms s.2)).objs.length = σ.objs.length := ye3
 have hl2 : ((updS σ (ms s.2)).objs ++ bx :: lobjs (σ.objs.length + 1) s.1).length = A.length := by simp [hlen, Y9, hl, hsz]; omega
 have key : yL (A ++ AObj.arr C :: B) (UR A.length (σ.objs.length + 1) ms s) = ((updS σ (ms s.2)).objs ++ bx :: lobjs (σ.objs.length + 1) s.1) ++ AObj.arr (lay (σ.objs.length + 1) s.1).cells :: B := by
  refine yay (by rw [hk]; exact hn) (by rw [List.length_append, List.length_append, hl2]; rfl) (fun q hq => ?_) (fun i hi => ?_)
  ·unfold UR at hq
   rcases List.mem_append.1 hq with hq | hq
   ·rcases List.mem_cons.1 hq with rfl | hq
    ·rw [List.getElem?_append_right (by rw [hl2]; exact Nat.le_refl _), hl2]; simp
    ·have h3 := ycc (σ := ⟨σ.gl, ((updS σ (ms s.2)).objs ++ bx :: lobjs (σ.objs.length + 1) s.1) ++ AObj.arr (lay (σ.objs.length + 1) s.1).cells :: B, tk⟩) (A := (updS σ (ms s.2)).objs ++ [bx]) (C := AObj.arr (lay (σ.objs.length + 1) s.1).cells :: B) (d := s.1) (by simp [hlen])
     have e3 : ((updS σ (ms s.2)).objs ++ [bx]).length = σ.objs.length + 1 := by simp [hlen]
     rw [e3] at h3
     exact h3 q hq
   ·have hqm : q.1 ∈ mk := by rw [← hmk s.2]; exact List.mem_map.2 ⟨q, hq, rfl⟩
    have := hlt _ hqm
    rw [List.append_assoc, List.getElem?_append_left (by rw [hlen]; exact this)]
    exact Yz (by rw [hmk]; exact hnd) hq this
  ·rw [hk, List.mem_append, not_or] at hi
   obtain ⟨hi1, hi2⟩ := hi
   simp only [List.mem_cons, List.mem_range'_1, not_or] at hi1
   rcases Nat.lt_trichotomy i σ.objs.length with h | h | h
   ·rw [hA, List.append_assoc, List.append_assoc, List.getElem?_append_left h, List.getElem?_append_left (by rw [hlen]; exact h)]
    exact (zj (by rw [hmk]; exact hi2)).symm
   ·subst h
    rw [hA, List.append_assoc, List.append_assoc, List.cons_append, List.cons_append, yaJ rfl, yaJ hlen]
   ·have h5 : A.length < i := by omega
    rw [List.getElem?_append_right (by omega), List.getElem?_append_right (by rw [hl2]; omega), hl2]
    obtain ⟨j, hj⟩ : ∃ j, i - A.length = j + 1 := ⟨i - A.length - 1, by omega⟩
    rw [hj]; rfl
 unfold updS at key ⊢
 simp only at key ⊢
 rw [key]
theorem ZI {m : Nat} {d : D} {no nt : Nat} (h : m + msz d ≤ no) : (∀ ob, ob ∈ lobjs m d → ob.clo no nt 0 = true) ∧ WVt no nt 0 (lay m d).av (lay m d).av := by
 have hk := yg5 (ob := m + msz d) (t := lay m d) (no := no + 1) (nt := nt) (fun i hi => by
  rw [ZY, YA] at hi
  rcases List.mem_cons.1 hi with rfl | hi
  ·omega
  ·rw [List.mem_range'_1] at hi; omega)
 have hlt : ∀ q, q ∈ (lay m d).arrs → q.1 < no := fun q hq => by have := yrz hq; omega
 have hcs : ∀ u : AD, (∀ q, q ∈ u.arrs → q.1 < no) → AV.clos no nt 0 u.cells = true := by
  intro u hu
  cases u with
  | mk k n tx o l =>
   cases l with
   | nil => rfl
   | cons a l =>
    have := hu (o, .arr ((a :: l).flatMap AD.cells)) (by simp [AD.arrs, Zl])
    simp only [AD.cells, kvOf, AV.clos, AV.clo, Bool.and_true, Bool.true_and, decide_eq_true_eq]
    exact this
 have hrow : ∀ (u : AD), (∀ q, q ∈ u.arrs → q.1 < no) → ∀ q, q ∈ u.arrs → q.2.clo no nt 0 = true := by
  intro u
  induction u using AD.ind with
  | _ k n tx o l ih =>
   intro hu q hq
   rw [AD.arrs, AD.arrss_flat] at hq hu
   rcases List.mem_append.1 hq with hq | hq
   ·cases l with
    | nil => simp [Zl] at hq
    | cons a l =>
     simp only [Zl, List.mem_singleton] at hq
     subst hq
     simp only [AObj.clo, AV.clos_iff]
     intro x hx
     obtain ⟨c, hc, hx⟩ := List.mem_flatMap.1 hx
     exact AV.clos_iff.1 (hcs c fun q hq2 => hu q (List.mem_append_right _ (List.mem_flatMap.2 ⟨c, hc, hq2⟩))) x hx
   ·obtain ⟨c, hc, hq⟩ := List.mem_flatMap.1 hq
    exact ih c hc (fun q hq2 => hu q (List.mem_append_right _ (List.mem_flatMap.2 ⟨c, hc, hq2⟩))) q hq
 refine ⟨fun ob hob => ?_, ?_⟩
 ·obtain ⟨q, hq, rfl⟩ := List.mem_map.1 hob
  exact hrow _ hlt q hq
 ·have hc := hcs _ hlt
  by_cases h0 : (lay m d).kids = []
  ·rw [AD.av_leaf h0]; exact .same rfl
  ·rw [AD.av_node h0]; exact .same hc
section
variable {P : Program} {ty : TyT} {σ0 : Store} {N : Nat} {s : St} {o : Oper} {ops : Array Oper} {os : List Oper} {K : St → Prop} {σ : Store}
/-- A datum is looked at where it lies in a row. -/
theorem ymK (hty : TyOk P ty) {t : TypeId} {p : Operand} {ti : TyI} {i off : Nat} {cells rest : List AV} {u : AD} (hg : o.guard = none) (ho : o.op = .load t p) (hti : ty t = some ti) (hk : ti.kind.agg = true) (h4 : ti.size = 4)
  (hp : ev s p = .ptr i off) (hi : s.σ.objs[i]? = some (.arr cells)) (hc : cells.drop off = u.cells ++ rest) (hd : yH N o.dst = true) (h : yz P σ0 N ops os K (s.put o.dst u.av)) : yz P σ0 N ops (o :: os) K s := by
 refine YH hg (yeU hty ?_ hd h)
 rw [ho]
 simp only [zZ, hti, hp, z6, hi, hc, y8, hk, if_true, h4]
 rw [if_pos (by rw [List.length_append, AD.cells_len]; omega), List.take_append_of_le_length (by rw [AD.cells_len]; exact Nat.le_refl _), List.take_of_length_le (by rw [AD.cells_len]; exact Nat.le_refl _)]
 rfl
end
theorem yju (u : AD) : u.cells.take 4 = u.cells := List.take_of_length_le (by rw [AD.cells_len]; exact Nat.le_refl _)
/-- What every action keeps, the walk keeps. -/
theorem yr6 {β S : Type} {nam : D → List Int → List ByteArray → Int → S → List β × S} {vari : D → List Int → Option β → S → S} (I : S → Prop) (hn : ∀ d p ns n s, I s → I (nam d p ns n s).2) (hv : ∀ d p b s, I s → I (vari d p b s)) :
  ∀ (d : D) (p : List Int) (sc : List (ByteArray × β)) (s : S), I s → I (wk nam vari d p sc s) := by
 intro d
 induction d using D.indS with
 | h d ih =>
  intro p sc s hg
  by_cases h2 : yb d = 2
  ·rw [ygy _ _ h2]; exact hv _ _ _ _ hg
  by_cases h5 : yb d = 5 ∨ yb d = 9
  ·rw [yhJ _ _ h5]
   have hq : subL d 2 (d2 d.kids) ∈ subs d := by rw [y4 h5]; simp
   exact ih _ hq _ _ _ (hn _ _ _ _ _ hg)
  by_cases h6 : yb d = 6
  ·rw [yjb _ _ h6]
   have hq : (⟨[2], []⟩, d2 d.kids) ∈ subs d := by rw [yQ h6]; simp
   have hq3 : subL d 3 (d.kids.getD 3 dnone) ∈ subs d := by rw [yQ h6]; simp
   exact ih _ hq3 _ _ _ (ih _ hq _ _ _ (hn _ _ _ _ _ hg))
  by_cases h7 : yb d = 7
  ·rw [yiD _ _ h7]
   have hq : subL d 2 (d2 d.kids) ∈ subs d := by rw [y9 h7]; simp
   refine ih _ hq _ _ _ ?_
   have h0 := hn d p (ownS d) 0 s hg
   generalize yB sc (ownS d) (nam d p (ownS d) 0 s).1 = inn
   generalize (nam d p (ownS d) 0 s).2 = s0 at h0
   have key : ∀ k, k ≤ (d1 d.kids).kids.length → I (wkd nam vari d p inn k s0) := by
    intro k
    induction k with
    | zero => intro _; exact h0
    | succ k ihk =>
     intro hk
     have hx : (d1 d.kids).kids[k]? = some ((d1 d.kids).kids[k]'(by omega)) := by simp
     rw [ycV _ _ hx]
     exact ih _ (List.mem_of_getElem? (Yc h7 hx)) _ _ _ (hn _ _ _ _ _ (ihk (by omega)))
   exact key _ (Nat.le_refl _)
  ·rw [← ygd nam vari (d := d) (p := p) (sc := sc) (s := s) ⟨h2, fun h => h5 (.inl h), fun h => h5 (.inr h), h6, h7⟩]
   have key : ∀ k, k ≤ (subs d).length → I (wks nam vari d p sc k s) := by
    intro k
    induction k with
    | zero => intro _; exact hg
    | succ k ihk =>
     intro hk
     have hx : (subs d)[k]? = some ((subs d)[k]'(by omega)) := by simp
     rw [ycK _ _ hx]
     exact ih _ (List.mem_of_getElem? hx) _ _ _ (ihk (by omega))
   exact key _ (Nat.le_refl _)
theorem ycr {Sg : Type} (to : List Int → Int → ByteArray → Sg → ByteArray × Sg) (e : D) (st : Sg) : (zO to e st).1.er = e.er :=
 yr6 (fun s : D × Sg => s.1.er = e.er) (fun d p ns n s hs => (yfy to d p ns n s ns.length (Nat.le_refl _)).trans hs) (fun d p b s hs => by
  cases b with
  | none => exact hs
  | some b => exact (D.er_setText _ _ _).trans hs) e [] [] (e, st) rfl
theorem ypY (u : AD) : y8 true 4 u.cells = some u.av := by
 unfold y8
 rw [if_pos rfl, if_pos (by rw [AD.cells_len]; exact Nat.le_refl _), yju]; rfl
theorem yfk {ty : TyT} {s : St} {c : Tmp} {t : TypeId} {ti : TyI} {i : Nat} {u : AD} (hti : ty t = some ti) (hk : ti.kind.agg = true) (h4 : ti.size = 4) (hp : get s.T c = .lptr i 0) (hL : s.L[i]? = some u.cells) : YO ty s [.cell c t] = some [u.av] := by
 simp only [YO, hti, hp, z6, hL, Option.bind_some, List.drop_zero, hk, h4, ypY, Option.map_some]
theorem ymr (u : AD) : AV.noLs [u.av] = true := by
 by_cases h : u.kids = []
 ·rw [AD.av_leaf h]; rfl
 ·rw [AD.av_node h]
  simp only [AV.noLs, AV.noL, Bool.and_true]
  exact AV.noLs_iff.2 (AD.noL_cells u)
end Go.Aw

namespace Go.Aw
open Go Go.ChangeShapes Go.WideShapes Go.ChangeAt Go.WideMaps Go.WideElems Go.RowKit
theorem ybH {α : Type} {Q : Nat → α → Prop} : ∀ n : Nat, (∀ i, i < n → ∃ d, Q i d) → ∃ l : List α, l.length = n ∧ ∀ i x, l[i]? = some x → Q i x
 | 0, _ => ⟨[], rfl, fun i x h => by simp at h⟩
 | n + 1, h => by
  obtain ⟨l, h1, h2⟩ := ybH n (fun i hi => h i (by omega))
  obtain ⟨d, hd⟩ := h n (by omega)
  refine ⟨l ++ [d], by simp [h1], fun i x hx => ?_⟩
  rcases getElem?_snoc hx with hx | ⟨rfl, rfl⟩
  ·exact h2 i x hx
  ·rw [h1]; exact hd

theorem yej {B : Nat} {S : Nat → Nat → Prop} {w : World} {a : Addr} {len cap sz : Nat} {xs : List PV} (hlen : xs.length = len) (hcap : len ≤ cap) (hb : a.block < B) (h0 : 0 < sz) (hsz : ∀ x, x ∈ xs → x.cells.length = sz)
  (h : ∀ (q : Nat) x, xs[q]? = some x → ∃ cs : List Value, cs.length = sz ∧ (∀ r, r < sz → w.cell? ((a.add (q * sz)).add r) = cs[r]?) ∧ (∀ v, v ∈ cs → v.oneCell' = true) ∧ ∀ (r : Nat) y v, x.cells[r]? = some y → cs[r]? = some v → RP B S w y v) :
  RP B S w (.slice xs) (.slice (some a) len cap) := by
 by_cases hl : xs = []
 ·subst hl; simp at hlen; subst hlen; exact .empty
 have hspot : a.spot = none := by
  obtain ⟨x, r, hx⟩ := ydE hl
  obtain ⟨cs, h1, h2, _⟩ := h 0 x (by rw [hx]; rfl)
  have h3 := h2 0 h0
  rw [Nat.zero_mul, Addr.add, if_pos rfl, Addr.add, if_pos rfl] at h3
  have h4 : cs[0]? = some cs[0] := by simp
  rw [h4] at h3
  unfold World.cell? at h3
  cases hs : a.spot with
  | none => rfl
  | some s =>
   rw [hs] at h3
   split at h3 <;> simp at h3
 have hadd : ∀ n, a.add n = ⟨a.block, a.off + n, none⟩ := by
  intro n
  unfold Addr.add
  split
  ·subst_vars; cases a; simp only at hspot; subst hspot; rfl
  ·rfl
 have hadd2 : ∀ n m, (a.add n).add m = ⟨a.block, a.off + (n + m), none⟩ := by
  intro n m
  rw [hadd]
  unfold Addr.add
  split
  ·subst_vars; rfl
  ·show (⟨a.block, a.off + n + m, none⟩ : Addr) = _
   rw [Nat.add_assoc]
 have ha : a = ⟨a.block, a.off, none⟩ := by cases a; simp only at hspot; subst hspot; rfl
 have hall : ∀ i, i < len * sz → ∃ (q r : Nat) (x : PV) (cs : List Value), i = q * sz + r ∧ r < sz ∧ xs[q]? = some x ∧ cs.length = sz ∧ w.cell? ⟨a.block, a.off + i, none⟩ = cs[r]? ∧ (∀ v, v ∈ cs → v.oneCell' = true) ∧ ∀ (r : Nat) y v, x.cells[r]? = some y → cs[r]? = some v → RP B S w y v := by
  intro i hi
  have hq : i / sz < len := Nat.div_lt_of_lt_mul (by rw [Nat.mul_comm]; exact hi)
  have hr : i % sz < sz := Nat.mod_lt _ h0
  have hx : xs[i / sz]? = some xs[i / sz] := by simp [hlen, hq]
  obtain ⟨cs, h1, h2, h3, h4⟩ := h _ _ hx
  have h5 := h2 (i % sz) hr
  have he : i / sz * sz + i % sz = i := by rw [Nat.mul_comm]; exact Nat.div_add_mod i sz
  rw [hadd2, he] at h5
  exact ⟨i / sz, i % sz, _, cs, he.symm, hr, hx, h1, h5, h3, h4⟩
 rw [ha, ← hlen]
 refine RP.slice (sz := sz) (vs := (List.range (len * sz)).map fun j => (w.cell? ⟨a.block, a.off + j, none⟩).getD (.int .i64 0)) hsz (by simp [hlen]) (by omega) (fun i v hv => ?_) (fun i y v hy hv => ?_)
 ·have hi : i < len * sz := by have := (List.getElem?_eq_some_iff.1 hv).1; simpa using this
  obtain ⟨q, r, x, cs, h1, h2, h3, h4, h5, h6, h7⟩ := hall i hi
  have h8 : cs[r]? = some cs[r] := by simp [h4, h2]
  rw [h8] at h5
  simp only [List.getElem?_map, List.getElem?_range hi, Option.map_some, Option.some.injEq, h5, Option.getD_some] at hv
  subst hv
  exact ⟨.inl hb, h5, h6 _ (List.getElem_mem _)⟩
 ·have hi : i < len * sz := by have := (List.getElem?_eq_some_iff.1 hv).1; simpa using this
  obtain ⟨q, r, x, cs, h1, h2, h3, h4, h5, h6, h7⟩ := hall i hi
  have h8 : cs[r]? = some cs[r] := by simp [h4, h2]
  rw [h8] at h5
  simp only [List.getElem?_map, List.getElem?_range hi, Option.map_some, Option.some.injEq, h5, Option.getD_some] at hv
  subst hv
  rw [h1, yfd hsz h3 h2] at hy
  exact h7 r y _ hy h8

/-! ### data -/
structure DatumTy (P : Program) (tD tK ti tn ts : TypeId) : Prop where
 und : ∃ f0 f1 f2 f3 : Field, P.underlying tD = some (.struct #[f0, f1, f2, f3]) ∧ f0.type = ti ∧ f0.offset = 0 ∧ f1.type = tn ∧ f1.offset = 1 ∧ f2.type = ts ∧ f2.offset = 2 ∧ f3.type = tK ∧ f3.offset = 3
 i : P.underlying ti = some (.int .i64)
 n : P.underlying tn = some (.int .i64)
 s : P.underlying ts = some .string
 k : P.underlying tK = some (.slice tD)
 cD : P.cellsOf tD = 4
 ci : P.cellsOf ti = 1
 cn : P.cellsOf tn = 1
 cs : P.cellsOf ts = 1
 ck : P.cellsOf tK = 1

theorem yiw {α : Type} {l : List α} {i : Nat} {a : α} (h : (l.drop i).take 1 = [a]) : l[i]? = some a := by
 have h1 : ((l.drop i).take 1)[0]? = some a := by rw [h]; rfl
 rw [List.getElem?_take, List.getElem?_drop] at h1
 simpa using h1

section
variable {H : Type} {enc' : TypeId × Value → H} {P : Program} {w : World} {base : Nat} {spare : Nat → Bool} {held : Bool} {tD tK ti tn ts : TypeId} {S : Nat → Nat → Prop}
theorem ykG (T : DatumTy P tD tK ti tn ts) : ∀ (fuel : Nat) (cs : List Value) (x : DataW H × List MemPlace), DataW.trod enc' P w base spare held fuel tD cs = some x →
  ∃ (d : D) (v : Value), cs = [.int .i64 d.kind, .int .i64 d.num, .string d.text, v] ∧ v.oneCell' = true ∧ RP w.heap.size S w (.slice (d.kids.map enc)) v := by
 intro fuel
 induction fuel using Nat.strongRecOn with
 | _ fuel ih =>
  intro cs x h
  obtain ⟨f0, f1, f2, f3, hu, t0, o0, t1, o1, t2, o2, t3, o3⟩ := T.und
  obtain ⟨xs, n, rfl, rfl, hl, hlen, hf⟩ := DataW.trod_struct hu h
  have hxl : xs.length = 4 := by simpa using hlen
  have g0 := hf 0 f0 rfl
  have g1 := hf 1 f1 rfl
  have g2 := hf 2 f2 rfl
  have g3 := hf 3 f3 rfl
  rw [t0, o0, T.ci] at g0
  rw [t1, o1, T.cn] at g1
  rw [t2, o2, T.cs] at g2
  rw [t3, o3, T.ck] at g3
  have s0 : xs[0]? = some xs[0] := by simp
  have s1 : xs[1]? = some xs[1] := by simp
  have s2 : xs[2]? = some xs[2] := by simp
  have s3 : xs[3]? = some xs[3] := by simp
  rw [s0] at g0
  rw [s1] at g1
  rw [s2] at g2
  rw [s3] at g3
  obtain ⟨k, e0, _, _⟩ := DataW.trod_int T.i g0
  obtain ⟨m, e1, _, _⟩ := DataW.trod_int T.n g1
  obtain ⟨t, e2, _, _⟩ := DataW.trod_string T.s g2
  have a0 := yiw e0
  have a1 := yiw e1
  have a2 := yiw e2
  rw [T.cD] at hl
  have hcs : ∃ v, cs = [.int .i64 k, .int .i64 m, .string t, v] := by
   match cs, hl, a0, a1, a2 with
   | [c0, c1, c2, c3], _, a0, a1, a2 =>
    simp only [List.getElem?_cons_zero, List.getElem?_cons_succ, Option.some.injEq] at a0 a1 a2
    exact ⟨c3, by rw [a0, a1, a2]⟩
  obtain ⟨v, hcs⟩ := hcs
  rw [hcs] at g3
  have g3' : DataW.trod enc' P w base spare held n tK [v] = some xs[3] := g3
  rcases DataW.trod_slice T.k g3' with ⟨hv, _⟩ | ⟨a, len, cap, elems, rest, m', rfl, hv, _, hb, hlc, hcm, hel, hes, _⟩
  ·cases hv
   exact ⟨.mk k m t [], _, hcs, rfl, by simp only [D.kids, List.map_nil]; exact .empty⟩
  ·cases hv
   rw [T.cD] at hes
   have hex : ∀ i, i < len → ∃ d : D, ∃ v' : Value, (∀ r, r < 4 → w.cell? ((a.add (i * 4)).add r) = ([.int .i64 d.kind, .int .i64 d.num, .string d.text, v'] : List Value)[r]?) ∧ v'.oneCell' = true ∧ RP w.heap.size S w (.slice (d.kids.map enc)) v' := by
    intro i hi
    have h1 := hes i hi
    have h2 : elems[i]? = some elems[i] := by simp [hel, hi]
    rw [h2] at h1
    obtain ⟨cs', hc, ht⟩ := Option.bind_eq_some_iff.1 h1
    obtain ⟨_, _, hc2⟩ := World.cells?_some hc
    obtain ⟨d, v', he, hone, hrp⟩ := ih m' (by omega) cs' _ ht
    subst he
    exact ⟨d, v', hc2, hone, hrp⟩
   obtain ⟨l, hll, hlq⟩ := ybH len hex
   refine ⟨.mk k m t l, _, hcs, rfl, ?_⟩
   show RP w.heap.size S w (.slice (l.map enc)) (.slice (some a) len cap)
   by_cases hlen0 : len = 0
   ·subst hlen0
    have : l = [] := List.eq_nil_of_length_eq_zero hll
    subst this
    exact .empty
   have hblk : a.block < w.heap.size := by
    obtain ⟨d, v', h1, _⟩ := hex 0 (by omega)
    have h2 := h1 0 (by omega)
    rw [Nat.zero_mul, Addr.add, if_pos rfl, Addr.add, if_pos rfl] at h2
    unfold World.cell? at h2
    by_cases hlt : a.block < w.heap.size
    ·exact hlt
    ·rw [Array.getElem?_eq_none (by omega)] at h2; simp at h2
   refine yej (sz := 4) (by simp [hll]) hlc hblk (by omega) (fun x hx => ?_) (fun q x hx => ?_)
   ·obtain ⟨d, _, rfl⟩ := List.mem_map.1 hx
    rw [zD]; rfl
   ·rw [List.getElem?_map] at hx
    obtain ⟨d, hd, rfl⟩ := Option.map_eq_some_iff.1 hx
    obtain ⟨v', h1, h2, h3⟩ := hlq q d hd
    refine ⟨[.int .i64 d.kind, .int .i64 d.num, .string d.text, v'], rfl, h1, fun u hu => ?_, fun r y u hy hu => ?_⟩
    ·simp only [List.mem_cons, List.not_mem_nil, or_false] at hu
     rcases hu with rfl | rfl | rfl | rfl <;> first | rfl | exact h2
    ·rw [zD] at hy
     match r with
     | 0 => simp at hy hu; subst hy hu; exact .int
     | 1 => simp at hy hu; subst hy hu; exact .int
     | 2 => simp at hy hu; subst hy hu; exact .str
     | 3 => simp at hy hu; subst hy hu; exact h3
     | r + 4 => simp at hy
end
end Go.Aw

namespace Go.Aw
open Go Go.ChangeShapes Go.WideShapes Go.ChangeAt Go.WideMaps Go.WideElems Go.RowKit
theorem yek {H : Type} (x : Lit × DataW H) : ∀ l : List (Lit × DataW H), (DataW.insert x l).Perm (x :: l)
 | [] => .refl _
 | y :: r => by
  unfold DataW.insert
  split
  ·exact .refl _
  ·exact ((yek x r).cons y).trans (.swap _ _ _)
theorem YF {H : Type} : ∀ l : List (Lit × DataW H), (l.foldr DataW.insert []).Perm l
 | [] => .refl _
 | x :: l => (yek x _).trans ((YF l).cons x)

def ycf : Lit → List UInt8
 | .string s => s
 | _ => []

/-! ### the beginning and the end of a call -/
def g0 (W : World) : Ghost := { B := W.heap.size, K := fun _ => False, S := fun _ _ => False, io := [], lam := [], tb := [] }
theorem inv0 {W : World} {gl : List (Nat × PV)} (h : ∀ n p, (n, p) ∈ gl → RP W.heap.size (fun _ _ => False) W p (.pointer (some ⟨n, 0, none⟩))) : Inv (g0 W) ⟨gl, [], []⟩ [] W := by
 refine ⟨rfl, rfl, rfl, h, List.nodup_nil, fun b hb => (by simp [g0, Ghost.owned] at hb), fun b hb => (by cases hb), Nat.le_refl _, fun b o hS => (by cases hS), fun o ob b ho => (by simp at ho), fun i cs b hL => (by simp at hL), fun k t tb ht => (by simp at ht)⟩
theorem yn0 {W W' : World} {σ σ' : Store} {g' : Ghost} (h : Ext (g0 W) σ W g' σ' W') : Below W.heap.size W W' :=
 ⟨h.os, h.tape, h.output, h.size, fun k hk => h.le.keeps.blk k hk⟩

section
variable {H : Type} {enc' : TypeId × Value → H} {P : Program}
theorem yhp {f : Func} {s : ChangeSpec} {apart fresh handsOn again : Bool} {W W' : World} {args : Array Value} {v : Value} {ds gs : List (DataW H)} {before pa pv : List MemPlace}
  (hW : DataW.Whole enc' P f.params.toList s.vars apart W args.toList ds gs before)
  (hres : ∀ (b : Nat) (sp : Nat → Bool) (hd : Bool), DataW.TrodAll enc' P W' b sp hd f.resultTypes.toList (v.resultList f.resultTypes.size) (s.fn H (ds ++ gs)).results [])
  (hargs : ∀ sp : Nat → Bool, (∀ p ∈ before, sp p.block = true) → DataW.TrodAll enc' P W' 0 sp true f.params.toList args.toList (s.fn H (ds ++ gs)).args pa)
  (hvars : ∀ sp : Nat → Bool, (∀ p ∈ before, sp p.block = true) → DataW.TrodVars enc' P W' sp s.vars (s.fn H (ds ++ gs)).vars pv)
  (hps : before = pa ++ pv) (hb : Below W.heap.size W W')
  (hok : ∀ (j : Nat) (t : TypeId) (r : Value), f.resultTypes[j]? = some t → (v.resultList f.resultTypes.size)[j]? = some r → Value.okWide P W' .any 0 t r) :
  s.post enc' P f apart fresh handsOn again W args v W' := by
 have hold : ∀ p ∈ before, (fun b => decide (b < W.heap.size)) p.block = true := fun p hp => by simpa using hW.lt p hp
 refine ⟨ds, gs, before, [], pa, pv, hW, hres _ _ _, hargs _ hold, hvars _ hold, hb.frame _, fun _ => ?_⟩
 have hlt := hW.lt
 obtain ⟨_, _, _, _, _, hz, hn⟩ := hW
 refine ⟨hok, _, _, ([] ++ pa) ++ pv, ⟨[] ++ pa, pv, trodAll_append (hargs _ (fun _ _ => rfl)) (hres _ _ _), hvars _ (fun _ _ => rfl), rfl, ?_, ?_⟩, ?_⟩
 ·intro b off hp
  have hp' : MemPlace.cell b off ∈ before := by rw [hps]; simpa using hp
  have hl := hlt _ hp'
  rw [hb.frozen (p := ⟨b, off, none⟩) hl]
  exact hz b off hp'
 ·intro ha
  have := hn ha
  rw [hps] at this
  simpa using this
 ·intro p hp _
  rw [hps]
  simpa using hp
end
end Go.Aw

namespace Go.Aw
open Go Go.RowKit Go.Sort Go.Proofs Go.Maps Go.WideElems
def bstr (l : List UInt8) : ByteArray := ⟨l.toArray⟩
/-- A call that gives a new row of strings and leaves the world but for new blocks. -/
theorem yjJ {P : Program} {f : FuncId} {args : List AV} {σ : Store} {Q : List (List UInt8) → Prop}
  (h : ∀ g w (cargs : List Value), Inv g σ [] w → cargs.length = args.length → (∀ (i : Nat) x v, args[i]? = some x → cargs[i]? = some v → RA g σ.toks w x v) →
   Calls P f cargs.toArray w fun e w' => ∃ (v : Value) (ss : List (List UInt8)) (t : TypeId), e = .returned v ∧ Q ss ∧ w'.ownsRow w.heap.size t 1 v ss.length (ss.map encStr) ∧ Below w.heap.size w w') :
  ACalls P f args σ fun r σ' => ∃ ss : List (List UInt8), r = .pv (.slice (ss.map fun l => .str (bstr l))) ∧ Q ss ∧ σ' = σ := by
 intro g w cargs hinv hlen hargs
 refine (h g w cargs hinv hlen hargs).mono ?_
 rintro e w' ⟨v, ss, t, rfl, hQ, ⟨hxl, hrow⟩, hb⟩
 obtain ⟨h1, h2⟩ := hinv.step hb.size (fun b hlt => hb.block b hlt)
 have hext : Ext g σ w g σ w' := ⟨h2, rfl, fun _ h => h, fun b hK => hb.block b (hinv.kept b hK).1, hb.size, hb.os, hb.tape, hb.output, hinv.lio, hinv.clo⟩
 rcases hrow with ⟨rfl, hn⟩ | ⟨b, cap, cur, rfl, hbase, hbk, hnc, hcm, hsz, htk⟩
 ·have hss : ss = [] := List.eq_nil_of_length_eq_zero hn
  subst hss
  exact ⟨_, _, σ, g, rfl, ⟨[], rfl, hQ, rfl⟩, h1, hext, .pv .empty⟩
 ·have hblt : b < w'.heap.size := by
   by_cases hlt : b < w'.heap.size
   ·exact hlt
   ·rw [Array.getElem?_eq_none (by omega)] at hbk; cases hbk
  have hfr : Fresh g w' b := by
   refine ⟨by have := hinv.base; omega, hblt, fun hK => by have := (hinv.kept b hK).1; omega, fun o hS => by have := (hinv.cells b o hS).2.1; omega, fun hm => by have := (hinv.low b hm).2.1; omega⟩
  obtain ⟨h3, h4⟩ := h1.addS hfr (fun o => o < ss.length)
  have hle := h2.trans h4
  refine ⟨_, _, σ, _, rfl, ⟨ss, rfl, hQ, rfl⟩, h3, ⟨hle, rfl, fun _ h => h, fun b hK => hb.block b (hinv.kept b hK).1, hb.size, hb.os, hb.tape, hb.output, hinv.lio, hinv.clo⟩, .pv ?_⟩
  have hrp : RP g.B (fun c o => g.S c o ∨ (c = b ∧ o < ss.length)) w' (.slice (ss.map fun l => .str (bstr l))) (.slice (some ⟨b, 0, none⟩) (ss.map fun l => PV.str (bstr l)).length cap) := by
   refine .slice (sz := 1) (vs := ss.map encStr) (fun x hx => by obtain ⟨l, _, rfl⟩ := List.mem_map.1 hx; rfl) (by simp) (by simpa using hnc) (fun i u hu => ?_) (fun i x u hx hu => ?_)
   ·have hi : i < ss.length := by have := (List.getElem?_eq_some_iff.1 hu).1; simpa using this
    refine ⟨.inr (.inr ⟨rfl, by omega⟩), ?_, ?_⟩
    ·rw [zb hbk, Nat.zero_add]
     have h5 : (cur.toList.take (ss.length * 1))[i]? = some u := by rw [htk]; exact hu
     rw [List.getElem?_take, if_pos (by omega)] at h5
     simpa using h5
    ·rw [List.getElem?_map] at hu
     obtain ⟨l, _, rfl⟩ := Option.map_eq_some_iff.1 hu
     rfl
   ·have hfl : flat (ss.map fun l => PV.str (bstr l)) = ss.map fun l => PV.str (bstr l) := by
     generalize ss = L
     induction L with
     | nil => rfl
     | cons a L ih => simp only [List.map_cons]; show PV.cells _ ++ flat _ = _; rw [ih]; rfl
    rw [hfl, List.getElem?_map] at hx
    rw [List.getElem?_map] at hu
    obtain ⟨l, hl, rfl⟩ := Option.map_eq_some_iff.1 hx
    rw [hl] at hu
    simp only [Option.map_some, Option.some.injEq] at hu
    subst hu
    exact .str
  simpa using hrp
/-- A set in memory, as the kit reads a map. -/
theorem yoP {P : Program} {g : Ghost} {w : World} {b : Nat} {S : List ByteArray} {kt : TypeId} (hk : P.underlying kt = some .string) (h : RMap g w b (tK S) (tV S)) (hm : S.length ≤ maxLen) (hs : ∀ s, s ∈ S → s.size ≤ maxLen) :
  ∃ D0 : DataW Unit, w.ownsMap P kt (fun _ => some (.nil, [])) b S.length D0 ∧ (strKeys D0).Perm (S.map fun s => s.data.toList) ∧ Maps.size D0 = S.length := by
 obtain ⟨es, clock, h0, h1, h2, h3, h4, h5⟩ := h
 have hkl : (tK S).length = S.length := by simp [tK]
 have hes : ∀ (i : Nat) e, es[i]? = some e → ∃ s, S[i]? = some s ∧ e.key = .string s := by
  intro i e he
  have hi : i < S.length := by have := (List.getElem?_eq_some_iff.1 he).1; omega
  have hsi : S[i]? = some S[i] := by simp
  have hti : (tK S)[i]? = some (.str S[i]) := by unfold tK; rw [List.getElem?_map, hsi]; rfl
  exact ⟨_, hsi, (h3 i _ e hti he).str_inv⟩
 have hrd : ∀ (i : Nat) e, es[i]? = some e → ∃ s, S[i]? = some s ∧ WideElems.rd P kt (fun _ => some ((.nil : DataW Unit), [])) e = some (.string s.data.toList, .nil) := by
  intro i e he
  obtain ⟨s, hsi, hke⟩ := hes i e he
  refine ⟨s, hsi, ?_⟩
  unfold WideElems.rd
  rw [hke, WideMaps.keyOf_string_mk hk (hs s (List.mem_of_getElem? hsi))]
  rfl
 have hrg : es.map (WideElems.rg P kt fun _ => some ((.nil : DataW Unit), [])) = S.map fun s => (Lit.string s.data.toList, (.nil : DataW Unit)) := by
  apply List.ext_getElem?
  intro i
  rw [List.getElem?_map, List.getElem?_map]
  cases he : es[i]? with
  | none =>
   have : S[i]? = none := by rw [List.getElem?_eq_none_iff] at he ⊢; omega
   rw [this]; rfl
  | some e =>
   obtain ⟨s, hsi, hr⟩ := hrd i e he
   rw [hsi]
   simp only [Option.map_some]
   rw [WideElems.rg_of hr]
 refine ⟨_, ⟨es.toArray, clock, h0, ⟨by simp; omega, h5, fun x hx => ?_⟩, by simp; omega, rfl⟩, ?_, ?_⟩
 ·obtain ⟨i, hi⟩ := List.getElem?_of_mem (show x ∈ es by simpa using hx)
  obtain ⟨s, _, hr⟩ := hrd i x hi
  exact ⟨_, hr⟩
 ·have hp := (YF (es.toArray.toList.map (WideElems.rg P kt fun _ => some ((.nil : DataW Unit), [])))).map fun p => strOf p.1
  rw [show es.toArray.toList = es by simp, hrg] at hp
  show List.Perm (List.map _ _) _
  rw [show es.toArray.toList = es by simp, hrg]
  refine hp.trans ?_
  rw [List.map_map]
  refine List.Perm.of_eq (List.map_congr_left fun s _ => ?_)
  rfl
 ·have hp := (YF (es.toArray.toList.map (WideElems.rg P kt fun _ => some ((.nil : DataW Unit), []))))
  rw [show es.toArray.toList = es by simp, hrg] at hp
  show List.length _ = _
  rw [show es.toArray.toList = es by simp, hrg, hp.length_eq]
  simp
theorem Z9 {α : Type} {r : α → α → Prop} (ha : ∀ a b, r a b → r b a → a = b) : ∀ {l1 l2 : List α}, l1.Perm l2 → l1.Pairwise r → l2.Pairwise r → l1 = l2
 | [], l2, h, _, _ => (List.Perm.nil_eq h)
 | a :: l1, [], h, _, _ => (List.Perm.eq_nil h)
 | a :: l1, b :: l2, h, h1, h2 => by
  have hab : a = b := by
   rcases List.mem_cons.1 (h.mem_iff.1 (List.mem_cons_self (a := a) (l := l1))) with e | e
   ·exact e
   ·rcases List.mem_cons.1 (h.mem_iff.2 (List.mem_cons_self (a := b) (l := l2))) with e2 | e2
    ·exact e2.symm
    ·exact ha a b ((List.pairwise_cons.1 h1).1 b e2) ((List.pairwise_cons.1 h2).1 a e)
  subst hab
  rw [Z9 ha (List.Perm.cons_inv h) (List.pairwise_cons.1 h1).2 (List.pairwise_cons.1 h2).2]
/-- Strings, rising. -/
def Yj (S : List ByteArray) : List ByteArray := ((S.map fun s => s.data.toList).mergeSort fun x y => decide (x ≤ y)).map bstr
theorem ydu (a b : List UInt8) : (decide (a ≤ b) || decide (b ≤ a)) = true := by
 have := List.le_total a b
 rcases this with h | h <;> simp [h]
theorem ydz (a b c : List UInt8) : decide (a ≤ b) = true → decide (b ≤ c) = true → decide (a ≤ c) = true := by
 simp only [decide_eq_true_eq]
 exact fun h1 h2 => List.le_trans h1 h2
theorem ym8 {ss tt : List (List UInt8)} (h : ss.Perm tt) : (ss.mergeSort fun x y => decide (x ≤ y)) = tt.mergeSort fun x y => decide (x ≤ y) := by
 refine Z9 (r := fun x y => (decide (x ≤ y)) = true) (fun a b h1 h2 => List.le_antisymm (by simpa using h1) (by simpa using h2)) ?_ (List.pairwise_mergeSort (le := fun x y => decide (x ≤ y)) ydz ydu ss) (List.pairwise_mergeSort (le := fun x y => decide (x ≤ y)) ydz ydu tt)
 exact (List.mergeSort_perm ss _).trans (h.trans (List.mergeSort_perm tt _).symm)
/-- slices.Sorted of maps.Keys' iterator. -/
theorem yhr {P : Program} {fs fk : FuncId} {kt : TypeId} {n m : Nat} (hk : P.underlying kt = some .string)
  (hseq : ∀ (w : World) (Bm b nn : Nat) (D0 : DataW Unit), Bm < w.heap.size → w.cell? ⟨Bm, 0, none⟩ = some (.map (some b)) → w.ownsMap P kt (fun _ => some ((.nil : DataW Unit), [])) b nn D0 → SeqGives Fence.wide n P fk #[.pointer (some ⟨Bm, 0, none⟩)] encStr (fun ss => ss.Perm (strKeys D0)) (Maps.size D0) w)
  (hsrt : ∀ (Bm N : Nat) (S : List (List UInt8) → Prop) (w : World), N ≤ maxLen → N * 16 ≤ 140737488355328 → SeqGives Fence.wide n P fk #[.pointer (some ⟨Bm, 0, none⟩)] encStr S N w →
   CallsIn Fence.wide m P fs #[.func (.func fk) #[] #[.pointer (some ⟨Bm, 0, none⟩)]] w fun e w' => ∃ (v : Value) (ss : List (List UInt8)) (t : TypeId), e = .returned v ∧ S ss ∧ w'.ownsRow w.heap.size t 1 v ss.length ((ss.mergeSort (fun x y => decide (x ≤ y))).map encStr) ∧ Below w.heap.size w w')
  {σ : Store} {o om : Nat} {S : List ByteArray} (ho : σ.objs[o]? = some (.box [.map om])) (hom : σ.objs[om]? = some (.map (tK S) (tV S))) (hl : S.length ≤ 1000000000) (hs : ∀ s, s ∈ S → s.size ≤ maxLen) :
  ACalls P fs [.func (.func fk) [.ptr o 0]] σ fun r σ' => r = .pv (.slice ((Yj S).map .str)) ∧ σ' = σ := by
 have h := yjJ (P := P) (f := fs) (args := [.func (.func fk) [.ptr o 0]]) (σ := σ) (Q := fun ss => ss = (S.map fun s => s.data.toList).mergeSort fun x y => decide (x ≤ y)) (fun g w cargs hinv hlen hargs => ?_)
 ·refine h.mono ?_
  rintro r σ' ⟨ss, rfl, rfl, rfl⟩
  exact ⟨by unfold Yj; rw [List.map_map]; rfl, rfl⟩
 ·match cargs, hlen with
  | [v], hlen1 =>
   have hv := hargs 0 _ v rfl rfl
   cases hv with
   | func hfl hfr =>
    rename_i vs
    match vs, hfl with
    | [p], hpl1 =>
     have hp := hfr 0 _ p rfl rfl
     cases hp with
     | ptr hio =>
      rename_i Bm
      obtain ⟨_, us, e, h6, h7, h8, h9⟩ := hinv.objs o _ Bm ho hio
      match us, h7 with
      | [u], hul1 =>
       have hu := h9 0 _ u rfl rfl
       cases hu with
       | map hio2 =>
        rename_i b
        have hbm := (hinv.low Bm (ydJ hio)).2.1
        obtain ⟨D0, k1, k2, k3⟩ := yoP hk (hinv.objs om _ b hom hio2) (Nat.le_trans hl (by decide)) hs
        have hcell : w.cell? ⟨Bm, 0, none⟩ = some (.map (some b)) := by rw [zb h6]; rfl
        have hsq := hseq w Bm b S.length D0 hbm hcell k1
        refine (callsIn_wide.1 (hsrt Bm (Maps.size D0) _ w (by rw [k3]; exact Nat.le_trans hl (by decide)) (by rw [k3]; omega) hsq)).mono ?_
        rintro e' w' ⟨v, ss, t, rfl, hS, hrow, hb⟩
        refine ⟨v, ss.mergeSort fun x y => decide (x ≤ y), t, rfl, ym8 (hS.trans k2), ?_, hb⟩
        rw [List.length_mergeSort]
        exact hrow
end Go.Aw

namespace Go.Aw
open Go
def vS (n : Int) : ByteArray := ⟨#[118]⟩ ++ zW n
theorem yrU {n m : Int} (hn : 0 ≤ n) (hm : 0 ≤ m) (h : vS n = vS m) : n = m := by
 have h1 := congrArg (fun x : ByteArray => x.data.toList) h
 simp [vS] at h1
 exact ymu hn hm (ByteArray.ext h1)
theorem yg4 {l : List ByteArray} {x : ByteArray} : memB l x = true ↔ x ∈ l := by
 unfold memB
 rw [List.any_eq_true]
 exact ⟨fun ⟨y, hy, e⟩ => by simp at e; rw [e]; exact hy, fun h => ⟨x, h, by simp⟩⟩
/-- Different things among others are no more than these. -/
theorem ycY {α : Type} [DecidableEq α] : ∀ {l S : List α}, l.Nodup → (∀ x, x ∈ l → x ∈ S) → l.length ≤ S.length
 | [], S, _, _ => Nat.zero_le _
 | a :: l, S, hn, h => by
  have hn := List.nodup_cons.1 hn
  have ha := h a (by simp)
  have := ycY (l := l) (S := S.erase a) hn.2 (fun x hx => (List.mem_erase_of_ne (fun e => hn.1 (by rw [← e]; exact hx))).2 (h x (by simp [hx])))
  rw [List.length_erase_of_mem ha] at this
  have hp := List.length_pos_of_mem ha
  simp only [List.length_cons]; omega
/-- How many of the first names are among others. -/
def hits (S : List ByteArray) (n : Nat) : Nat := ((List.range n).filter fun (j : Nat) => memB S (vS (j : Int))).length
theorem ykt (S : List ByteArray) (n : Nat) : hits S n ≤ S.length := by
 unfold hits
 rw [← List.length_map (f := fun j : Nat => vS (j : Int))]
 refine ycY ?_ (fun x hx => ?_)
 ·rw [List.nodup_iff_pairwise_ne, List.pairwise_map]
  refine List.Pairwise.imp ?_ ((List.nodup_range (n := n)).filter _)
  intro a b h e
  exact h (by have := yrU (by omega) (by omega) e; omega)
 ·obtain ⟨j, hj, rfl⟩ := List.mem_map.1 hx
  exact yg4.1 (List.mem_filter.1 hj).2
theorem ygZ (S : List ByteArray) (n : Nat) : hits S (n + 1) = hits S n + (if memB S (vS (n : Int)) = true then 1 else 0) := by
 unfold hits
 rw [List.range_succ, List.filter_append, List.length_append]
 congr 1
 by_cases h : memB S (vS (n : Int)) = true
 ·rw [if_pos h]; simp [h]
 ·rw [if_neg h]; simp [h]
theorem yeZ {S : List ByteArray} {n : Nat} : ∀ {k : Nat}, (∀ j, n ≤ j → j < n + k → memB S (vS (j : Int)) = true) → hits S (n + k) = hits S n + k
 | 0, _ => rfl
 | k + 1, h => by
  rw [← Nat.add_assoc, ygZ, yeZ (fun j h1 h2 => h j h1 (by omega)), if_pos (h (n + k) (by omega) (by omega))]; omega
/-- The next name's number. -/
def nxtF (S : List ByteArray) : Nat → Nat → Nat
 | 0, n => n
 | f + 1, n => if memB S (vS (n : Int)) = true then nxtF S f (n + 1) else n
def nxtV (S : List ByteArray) (n : Nat) : Nat := nxtF S (S.length + 1) n
theorem ygT (S : List ByteArray) : ∀ (f n : Nat), n ≤ nxtF S f n ∧ nxtF S f n ≤ n + f ∧ (∀ j, n ≤ j → j < nxtF S f n → memB S (vS (j : Int)) = true) ∧ (nxtF S f n < n + f → memB S (vS (nxtF S f n : Int)) = false)
 | 0, n => ⟨Nat.le_refl _, Nat.le_refl _, fun j h1 h2 => by simp only [nxtF] at h2; omega, fun h => by simp only [nxtF] at h; omega⟩
 | f + 1, n => by
  simp only [nxtF]
  split
  ·rename_i hm
   obtain ⟨h1, h2, h3, h4⟩ := ygT S f (n + 1)
   refine ⟨by omega, by omega, fun j h5 h6 => ?_, fun h => h4 (by omega)⟩
   by_cases hj : j = n
   ·subst hj; exact hm
   ·exact h3 j (by omega) h6
  ·rename_i hm
   exact ⟨Nat.le_refl _, by omega, fun j h1 h2 => by omega, fun _ => by simpa using hm⟩
theorem ydd (S : List ByteArray) (n : Nat) : n ≤ nxtV S n ∧ nxtV S n ≤ n + S.length ∧ (∀ j, n ≤ j → j < nxtV S n → memB S (vS (j : Int)) = true) ∧ memB S (vS (nxtV S n : Int)) = false := by
 obtain ⟨h1, h2, h3, h4⟩ := ygT S (S.length + 1) n
 have hb : nxtV S n ≤ n + S.length := by
  have := yeZ (S := S) (n := n) (k := nxtV S n - n) (fun j h5 h6 => h3 j h5 (by unfold nxtV at h6; omega))
  have h5 := ykt S (n + (nxtV S n - n))
  unfold nxtV at *
  omega
 exact ⟨h1, hb, h3, h4 (by unfold nxtV at hb; omega)⟩
/-- The names of a canonical form: the next number, where names are among others. -/
def ybl (S : List ByteArray) (_p : List Int) (_i : Int) (_x : ByteArray) (n : Nat) : ByteArray × Nat := (vS (nxtV S n : Int), nxtV S n + 1)
def yd1 (S : List ByteArray) (m n : Nat) : Prop := n ≤ m + hits S n
theorem yk1 {S : List ByteArray} {m n : Nat} (h : yd1 S m n) : yd1 S (m + 1) (nxtV S n + 1) := by
 obtain ⟨h4, _, h5, _⟩ := ydd S n
 unfold yd1 at *
 have := yeZ (S := S) (n := n) (k := nxtV S n - n) (fun j h1 h2 => h5 j h1 (by omega))
 rw [show n + (nxtV S n - n) = nxtV S n by omega] at this
 have h7 := ygZ S (nxtV S n)
 omega
/-! ### how much is in an expression -/
theorem yfJ (l : List D) (n : Nat) : D.sizes (l.take n) + D.sizes (l.drop n) = D.sizes l := by
 conv => rhs; rw [← List.take_append_drop n l]
 generalize l.take n = a
 generalize l.drop n = b
 induction a with
 | nil => simp [D.sizes]
 | cons x a ih => simp [D.sizes]; omega
theorem yfz {f : Nat → D → Sub × D} (hf : ∀ i x, (f i x).2 = x) (l : List D) : ((mapI f l).map fun q => q.2.size).sum = D.sizes l := by
 have : ((mapI f l).map fun q => q.2.size) = l.map D.size := by
  apply List.ext_getElem?
  intro i
  rw [List.getElem?_map, zB, List.getElem?_map]
  cases l[i]? with
  | none => rfl
  | some x => simp [hf]
 rw [this]
 clear this
 induction l with
 | nil => rfl
 | cons x l ih => simp [D.sizes, ih]
theorem yk7 {l : List D} (h : l.length = 3) : D.sizes l = (l.headD dnone).size + (d1 l).size + (d2 l).size := by
 match l, h with
 | [a, b, c], _ => simp [D.sizes, d1, d2]; omega
theorem ysj {l : List D} (h : l.length = 4) : D.sizes l = (l.headD dnone).size + (d1 l).size + (d2 l).size + (l.getD 3 dnone).size := by
 match l, h with
 | [a, b, c, e], _ => simp [D.sizes, d1, d2]; omega
theorem yao (d : D) : (ownS d).length + (if (yb d == 7) = true then ((d1 d.kids).kids.map fun x => (parS x).length).sum else 0) + ((subs d).map fun q => q.2.size).sum + (if yb d = 2 then 1 else 0) ≤ d.size := by
 have hsz := D.size_kids d
 by_cases h4 : yb d = 4 ∨ yb d = 8
 ·have ho : ownS d = [] := by unfold ownS; rw [if_neg (by simp; omega), if_neg (by simp; omega), if_neg (by simp; omega), if_neg (by simp; omega)]
  rw [zV h4, yfz (fun _ _ => rfl), ho, if_neg (by simp; omega), if_neg (by omega)]
  have := yfJ d.kids 1
  simp only [List.length_nil, Nat.zero_add, Nat.add_zero]; omega
 by_cases h10 : yb d = 10
 ·have ho : ownS d = [] := by unfold ownS; rw [if_neg (by simp; omega), if_neg (by simp; omega), if_neg (by simp; omega), if_neg (by simp; omega)]
  rw [YC h10, yfz (fun _ _ => rfl), ho, if_neg (by simp; omega), if_neg (by omega)]
  simp; omega
 by_cases h5 : yb d = 5 ∨ yb d = 9
 ·have hl := (y3 d).1 (h5.elim .inl fun h => .inr (.inl h))
  have ho : ownS d = (d1 d.kids).kids.map D.text := by unfold ownS; rcases h5 with h | h <;> rw [h] <;> rfl
  rw [y4 h5, ho, if_neg (by simp; omega), if_neg (by omega)]
  have h1 := D.kids_length_lt (d1 d.kids)
  have h2 := yk7 hl
  simp [subL]; omega
 by_cases h6 : yb d = 6
 ·have hl := (y3 d).2.1 h6
  have ho : ownS d = [(d1 d.kids).text] := by unfold ownS; rw [h6]; rfl
  rw [yQ h6, ho, if_neg (by simp; omega), if_neg (by omega)]
  have h1 := D.size_pos (d1 d.kids)
  have h2 := ysj hl
  simp [subL] at h2 ⊢; omega
 by_cases h7 : yb d = 7
 ·have hl := (y3 d).1 (.inr (.inr h7))
  have h3 := (y3 d).2.2 h7
  have ho : ownS d = (d1 d.kids).kids.map fun x => x.head.text := by unfold ownS; rw [h7]; rfl
  have h2 := yk7 hl
  have hs1 := D.size_kids (d1 d.kids)
  have hm : ((mapI (subR d) (d1 d.kids).kids).map fun q => q.2.size).sum = ((d1 d.kids).kids.map fun x => (d2 x.kids).size).sum := by
   have : ((mapI (subR d) (d1 d.kids).kids).map fun q => q.2.size) = (d1 d.kids).kids.map fun x => (d2 x.kids).size := by
    apply List.ext_getElem?
    intro i
    rw [List.getElem?_map, zB, List.getElem?_map]
    cases (d1 d.kids).kids[i]? with
    | none => rfl
    | some x => rfl
   rw [this]
  rw [y9 h7, ho, if_pos (by simpa using h7), if_neg (by omega), List.map_append, List.sum_append, hm]
  have key : ∀ l : List D, (∀ x, x ∈ l → x.kids.length = 3) → l.length + (l.map fun x => (parS x).length).sum + (l.map fun x => (d2 x.kids).size).sum ≤ D.sizes l := by
   intro l
   induction l with
   | nil => intro _; simp
   | cons x l ih =>
    intro h
    have ih := ih fun y hy => h y (by simp [hy])
    have hx := yk7 (h x (by simp))
    have hsx := D.size_kids x
    have hp : (parS x).length < (d1 x.kids).size := by unfold parS; rw [List.length_map]; exact D.kids_length_lt _
    simp only [List.length_cons, List.map_cons, List.sum_cons, D.sizes]
    omega
  have hk := key _ h3
  simp [subL] at hk ⊢; omega
 ·have hs : subs d = [] := Yg (by cases shape d <;> omega)
  have ho : ownS d = [] := by unfold ownS; rw [if_neg (by simp; omega), if_neg (by simp; omega), if_neg (by simp; omega), if_neg (by simp; omega)]
  rw [hs, ho, if_neg (by simp; omega)]
  have := D.size_pos d
  simp; split <;> omega
theorem ykF : ∀ d : D, ncnt d ≤ d.size := by
 intro d
 induction d using D.indS with
 | h d ih =>
  rw [ybL]
  have hb := yao d
  have : ((subs d).map fun q => ncnt q.2).sum ≤ ((subs d).map fun q => q.2.size).sum := by
   have : ∀ l : List (Sub × D), (∀ q, q ∈ l → ncnt q.2 ≤ q.2.size) → (l.map fun q => ncnt q.2).sum ≤ (l.map fun q => q.2.size).sum := by
    intro l
    induction l with
    | nil => intro _; simp
    | cons q l ihl => intro h; have h1 := h q (by simp); have h2 := ihl fun x hx => h x (by simp [hx]); simp; omega
   exact this _ ih
  omega
theorem ycE (S : List ByteArray) (x : ByteArray) : (addS S x).length ≤ S.length + 1 := by unfold addS; split <;> simp
theorem yg1 : ∀ (d : D) (l S : List ByteArray), (sfree d l S).length ≤ S.length + d.size := by
 intro d
 induction d using D.indS with
 | h d ih =>
  intro l S
  rw [Za]
  split
  ·have := D.size_pos d
   split
   ·omega
   ·have := ycE S d.text; omega
  ·have hb := yao d
   have : ∀ (r : List (Sub × D)) (S : List ByteArray), (∀ q, q ∈ r → ∀ l S, (sfree q.2 l S).length ≤ S.length + q.2.size) → (r.foldl (fun S q => sfree q.2 (q.1.ns.map (·.1) ++ l) S) S).length ≤ S.length + (r.map fun q => q.2.size).sum := by
    intro r
    induction r with
    | nil => intro S _; simp
    | cons q r ihr =>
     intro S h
     have h1 := h q (by simp) (q.1.ns.map (·.1) ++ l) S
     have h2 := ihr (sfree q.2 (q.1.ns.map (·.1) ++ l) S) fun x hx => h x (by simp [hx])
     simp only [List.foldl_cons, List.map_cons, List.sum_cons]; omega
   have h3 := this (subs d) S ih
   omega
/-- The canonical form. -/
def sCan (e : D) : D := (zO (ybl (sfree e [] [])) e 0).1
end Go.Aw

namespace Go.Aw
open Go
/-- The orders of a list. -/
def perms : Nat → List Nat → List (List Nat)
 | 0, _ => [[]]
 | n + 1, l => l.flatMap fun i => (perms n (l.erase i)).map (i :: ·)

end Go.Aw

namespace Go.Aw
open Go
section
variable {ρ : Option Nat} {P : Program} {ty : TyT} {V : View} {ops : Array Oper} {σ0 : Store} {N m : Nat} {Q : St → Prop}
/-- Nothing stands before what it must stand behind. -/
def LinX (ops : Array Oper) : List Nat → Prop
 | [] => True
 | i :: l => (∀ k, k ∈ l → k ∉ precs ops ops.size i) ∧ LinX ops l
/-- Every order that is drawn is one of the orders that may be. -/
theorem yh9 (hty : TyOk P ty) (hsz : ∀ t ti, ty t = some ti → ti.size ≠ 0) {mode : Region.Mode} (hg : zz ops mode = true) {g0 : Ghost} {w0 : World} {nx : Exit → Act → World → Prop} (hgl : V.gl = σ0.gl)
  (hnx : ∀ s' a' w', Q s' → Rel g0 σ0 w0 N s' a' w' → nx .normal a' w') : ∀ (fuel t : Nat) (listed : Array Bool) (acc : List Nat), Listed ops listed → (left ops listed).length = fuel →
   ∃ rest, Region.linearise.go mode ops fuel t listed acc = acc.reverse ++ rest ∧ rest.Perm (left ops listed) ∧ LinX ops rest ∧
    ∀ T L σ a w, DOps P ty V σ0 N ops ops.size Q rest T L σ → Compat V L σ → Rel g0 σ0 w0 N ⟨T, L, σ⟩ a w → opsW P ops nx rest a w := by
 have hself : ∀ {T T' : List (Nat × AV)} {L : List (List AV)} {σ : Store} {a : Act} {w : World}, Same T T' → Rel g0 σ0 w0 N ⟨T, L, σ⟩ a w → Rel g0 σ0 w0 N ⟨T', L, σ⟩ a w := by
  rintro T T' L σ a w hs ⟨g, h1, h2, h3, h4, h5⟩
  refine ⟨g, h1, h2, h3, h4, fun t => ?_⟩
  have := h5 t
  simp only at this ⊢
  rw [← hs t]; exact this
 intro fuel
 induction fuel with
 | zero =>
  intro t listed acc hl hlen
  have he : left ops listed = [] := List.eq_nil_of_length_eq_zero hlen
  refine ⟨[], by simp [Region.linearise.go], by rw [he], trivial, fun T L σ a w hd hc r => ?_⟩
  obtain ⟨T', h1, h2⟩ := hd
  exact hnx _ _ _ h2 (hself h1 r)
 | succ fuel ih =>
  intro t listed acc hl hlen
  have hne : left ops listed ≠ [] := by intro e; rw [e] at hlen; simp at hlen
  obtain ⟨i0, hi0, hp0⟩ := yf2 hg hl hne
  simp only [Region.linearise.go]
  generalize hrs : ((List.range ops.size).filter fun i => !listed.getD i true && ((ops[i]?).map (·.after.all fun e => !Region.binds mode e || listed.getD e.on false)).getD false) = rs
  have hmem : ∀ i, i ∈ rs ↔ i ∈ left ops listed ∧ ∀ k, k ∈ edges ops mode i → listed.getD k false = true := by
   intro i; rw [← hrs]; exact yhf hl
  have hpos : 0 < rs.length := List.length_pos_iff.2 (fun e => by have := (hmem i0).2 ⟨hi0, hp0⟩; rw [e] at this; simp at this)
  have hlt : t % rs.length < rs.length := Nat.mod_lt _ hpos
  rw [List.getElem?_eq_getElem hlt]
  simp only
  have hi := (hmem _).1 (List.getElem_mem hlt)
  generalize rs[t % rs.length] = i at hi
  obtain ⟨hl', c1, c2, hc, hc', hc1, hcp⟩ := yeF hl hi.1 hi.2
  have hilt := ((Zr hl).1 hi.1).1
  obtain ⟨rest, h1, h2, h3, h4⟩ := ih (t / rs.length) (listed.setIfInBounds i true) (i :: acc) hl' (by rw [hc']; rw [hc] at hlen; simp at hlen ⊢; omega)
  refine ⟨i :: rest, by rw [h1]; simp, ?_, ⟨fun k hk hm => ?_, h3⟩, fun T L σ a w hd hcm r => ?_⟩
  ·rw [hc]
   rw [hc'] at h2
   exact (h2.cons i).trans (List.perm_middle.symm)
  ·have hkl := h2.mem_iff.1 hk
   have hkl' : k ∈ left ops listed := by rw [hc]; rw [hc'] at hkl; simp at hkl ⊢; rcases hkl with h | h <;> simp [h]
   have hpa : ∀ k, k ∈ edges ops .any i → listed.getD k false = true := by
    intro k hk
    refine hi.2 k ?_
    unfold edges at hk ⊢
    split at hk
    ·simp only [List.mem_map, List.mem_filter] at hk ⊢
     obtain ⟨e, ⟨he, hb⟩, rfl⟩ := hk
     exact ⟨e, ⟨he, yhd hb⟩, rfl⟩
    ·exact hk
   have q1 := ya9 hl ops.size i hpa k hm
   have q2 := ((Zr (i := k) hl).1 hkl').2
   rw [q1] at q2; cases q2
  ·obtain ⟨oi, hoi⟩ : ∃ o, ops[i]? = some o := ⟨ops[i], by simp [hilt]⟩
   simp only [DOps, if_pos hilt] at hd
   obtain ⟨o, k1, k2, k3⟩ := hd
   exact yeD hty hsz k1 k2 k3 hcm hgl r fun T' L' σ' a' w' q qc qr => h4 T' L' σ' a' w' q qc qr
/-- A drawn region: every order that may be is to be gone through. -/
theorem ymN {id : Nat} {QQ : Exit → St → Prop} {s : St} (hty : TyOk P ty) (hsz : ∀ t ti, ty t = some ti → ti.size ≠ 0) (V : View) (hg1 : zz ops .any = true) (hg2 : zz ops .text = true) (hg3 : zz ops .gc = true) (hgl : V.gl = s.σ.gl) (hc : (∀ (i : Nat) cs, V.L[i]? = some cs → cs ≠ [] → s.L[i]? = some cs) ∧ ∀ (o : Nat) ob, V.objs[o]? = some ob → ob ≠ .box [] → s.σ.objs[o]? = some ob)
  (h : ∀ l, l.Perm (List.range ops.size) → LinX ops l → DOps P ty V σ0 N ops ops.size (QQ .normal) l s.T s.L s.σ) : AWpR ρ P σ0 N (.region id ops true) QQ s := by
 rintro g0 w0 a w ⟨g, r⟩
 have hgl' : V.gl = σ0.gl := hgl.trans r.1.gl
 refine wpIn_region_draw fun t => opsW.wpIn _ ?_
 have hl0 : Listed ops (Array.replicate ops.size false) := by
  refine ⟨by simp, fun j hj => ?_⟩
  simp only [Array.getD_eq_getD_getElem?, Array.getElem?_replicate] at hj
  split at hj <;> simp at hj
 have hleft : left ops (Array.replicate ops.size false) = List.range ops.size := by
  simp only [left]
  refine List.filter_eq_self.2 (fun i hi => ?_)
  simp only [List.mem_range] at hi
  simp [Array.getD_eq_getD_getElem?, Array.getElem?_replicate, hi]
 have hr : RelG g0 σ0 w0 N g s a { w with drawn := w.drawn + 1 } := by
  have k := r.2.1.drewN (w' := { w with drawn := w.drawn + 1 }) rfl
  exact r.later (σ' := s.σ) (L' := s.L) k.2 (fun _ _ h => h) k.1 rfl rfl (fun _ _ => rfl) (Nat.le_refl _) rfl rfl rfl
 have go : ∀ (mode : Region.Mode) (t : Nat), zz ops mode = true → opsW P ops (lift g0 σ0 w0 N QQ) (Region.linearise mode ops t) a { w with drawn := w.drawn + 1 } := by
  intro mode t hg
  obtain ⟨rest, h1, h2, h2', h3⟩ := yh9 (P := P) (V := V) (σ0 := σ0) (N := N) (Q := QQ .normal) hty hsz (mode := mode) hg (g0 := g0) (w0 := w0) (nx := lift g0 σ0 w0 N QQ) hgl' (fun s' a' w' q r' => ⟨s', q, r'⟩) ops.size t (Array.replicate ops.size false) [] hl0 (by rw [hleft]; simp)
  rw [Region.linearise, h1]
  rw [hleft] at h2
  exact h3 s.T s.L s.σ a _ (h rest h2 h2') ⟨hc.1, hc.2, hgl.symm⟩ ⟨g, hr⟩
 unfold Region.schedule
 split
 ·exact go .any t hg1
 ·split
  ·exact go .text _ hg2
  ·exact go .gc _ hg3
/-- One order tells of another one, where what stands otherwise may be exchanged. -/
theorem yf1 : ∀ (l c : List Nat), l.Perm c → (∀ i, i ∈ l → i < m) → (∀ c1 i, (∃ c2, c = c1 ++ i :: c2) → ∀ k, k ∈ c1 → (∃ l1 l2, l = l1 ++ i :: l2 ∧ k ∈ l2) → ∃ ok oi, ops[k]? = some ok ∧ ops[i]? = some oi ∧ Y8 ops ok oi = true) →
  ∀ {T : List (Nat × AV)} {L : List (List AV)} {σ : Store}, DOps P ty V σ0 N ops m Q c T L σ → DOps P ty V σ0 N ops m Q l T L σ
 | [], c, hp, _, _, T, L, σ, h => by have := hp.symm.eq_nil; subst this; exact h
 | i :: l, c, hp, hm, hs, T, L, σ, h => by
  have hic : i ∈ c := hp.mem_iff.1 (by simp)
  obtain ⟨c1, c2, rfl⟩ := List.append_of_mem hic
  have hlp : l.Perm (c1 ++ c2) := (hp.trans List.perm_middle).cons_inv
  have hmi := hm i (by simp)
  have hk1 : ∀ k, k ∈ c1 → ∃ ok oi, ops[k]? = some ok ∧ ops[i]? = some oi ∧ Y8 ops ok oi = true := fun k hk =>
   hs c1 i ⟨c2, rfl⟩ k hk ⟨[], l, rfl, hlp.mem_iff.2 (by simp [hk])⟩
  have hfr : DOps P ty V σ0 N ops m Q (i :: (c1 ++ c2)) T L σ := by
   cases c1 with
   | nil => exact h
   | cons k0 c1 =>
    obtain ⟨_, oi, _, hoi, _⟩ := hk1 k0 (by simp)
    refine ycD hoi hmi (k0 :: c1) (fun k hk => ⟨hm k (by simp; exact .inr (hlp.mem_iff.2 (by simp at hk ⊢; rcases hk with h | h <;> simp [h]))), fun ok hok => ?_⟩) h
    obtain ⟨ok', oi', h1, h2, h3⟩ := hk1 k hk
    rw [hok] at h1; cases h1
    rw [hoi] at h2; cases h2
    exact h3
  simp only [DOps, if_pos hmi] at hfr ⊢
  obtain ⟨o, h1, h2, h3⟩ := hfr
  refine ⟨o, h1, h2, Zd (fun T L σ q => yf1 l (c1 ++ c2) hlp (fun j hj => hm j (by simp [hj])) (fun d1 j hd k hk hl => ?_) q) h3⟩
  obtain ⟨d2, hd⟩ := hd
  obtain ⟨l1, l2, hl1, hl2⟩ := hl
  rcases List.append_eq_append_iff.1 hd with ⟨a', ha1, ha2⟩ | ⟨a', ha1, ha2⟩
  ·-- c1 = short: d1 = c1 ++ a'
   refine hs (c1 ++ i :: a') j ⟨d2, by rw [ha2]; simp⟩ k (by rw [ha1] at hk; simp at hk ⊢; rcases hk with h | h <;> simp [h]) ⟨i :: l1, l2, by rw [hl1]; rfl, hl2⟩
  ·cases a' with
   | nil =>
    simp at ha1 ha2
    refine hs (c1 ++ [i]) j ⟨d2, by rw [← ha2]; simp⟩ k (by rw [ha1]; simp [hk]) ⟨i :: l1, l2, by rw [hl1]; rfl, hl2⟩
   | cons b a' =>
    simp at ha2
    obtain ⟨rfl, ha3⟩ := ha2
    refine hs d1 j ⟨a' ++ i :: c2, by rw [ha1]; simp⟩ k hk ⟨i :: l1, l2, by rw [hl1]; rfl, hl2⟩
/-- What stands in no order in a list may be exchanged, but for some pairs. -/
def ydQ (ops : Array Oper) (bad : List (Nat × Nat)) : List Nat → Bool
 | [] => true
 | k :: c => (c.all fun i => (precs ops ops.size i).contains k || bad.contains (k, i) || (match ops[k]?, ops[i]? with | some ok, some oi => Y8 ops ok oi | _, _ => false)) && ydQ ops bad c
theorem yfx {bad : List (Nat × Nat)} : ∀ {c : List Nat}, ydQ ops bad c = true → ∀ c1 i c2, c = c1 ++ i :: c2 → ∀ k, k ∈ c1 → k ∈ precs ops ops.size i ∨ (k, i) ∈ bad ∨ ∃ ok oi, ops[k]? = some ok ∧ ops[i]? = some oi ∧ Y8 ops ok oi = true
 | [], _, c1, i, c2, he, k, hk => by simp at he
 | a :: c, h, c1, i, c2, he, k, hk => by
  simp only [ydQ, Bool.and_eq_true, List.all_eq_true] at h
  cases c1 with
  | nil => simp at hk
  | cons b c1 =>
   simp only [List.cons_append, List.cons.injEq] at he
   obtain ⟨rfl, rfl⟩ := he
   rcases List.mem_cons.1 hk with rfl | hk
   ·have := h.1 i (by simp)
    simp only [Bool.or_eq_true, List.contains_eq_mem, decide_eq_true_eq] at this
    rcases this with (h1 | h1) | h1
    ·exact .inl h1
    ·exact .inr (.inl h1)
    ·refine .inr (.inr ?_)
     split at h1
     ·exact ⟨_, _, ‹_›, ‹_›, h1⟩
     ·cases h1
   ·exact yfx h.2 c1 i c2 rfl k hk
theorem ykh : ∀ {l : List Nat}, LinX ops l → ∀ l1 i l2, l = l1 ++ i :: l2 → ∀ k, k ∈ l2 → k ∉ precs ops ops.size i
 | [], _, l1, i, l2, he => by simp at he
 | a :: l, h, l1, i, l2, he => by
  cases l1 with
  | nil => simp at he; obtain ⟨rfl, rfl⟩ := he; exact h.1
  | cons b l1 => simp at he; exact ykh h.2 l1 i l2 he.2
theorem yrG {l : List Nat} (hn : l.Nodup) {l1 l2 : List Nat} {i k : Nat} (he : l = l1 ++ i :: l2) (hk : k ∈ l2) : l.idxOf i < l.idxOf k := by
 subst he
 have h1 := List.nodup_append.1 hn
 have hi1 : i ∉ l1 := fun h => h1.2.2 i h i (by simp) rfl
 have hk1 : k ∉ l1 := fun h => h1.2.2 k h k (by simp [hk]) rfl
 have hik : i ≠ k := fun e => by subst e; exact (List.nodup_cons.1 h1.2.1).1 hk
 rw [List.idxOf_append, List.idxOf_append, if_neg hi1, if_neg hk1, List.idxOf_cons_self, List.idxOf_cons]
 have : (i == k) = false := by simpa using hik
 rw [this]; simp
theorem yrZ : ∀ l : List Nat, (∀ i, i ∈ l → i < ops.size) → l.map (ops[·]?) = (l.filterMap (ops[·]?)).map some := by
 intro l
 induction l with
 | nil => intro _; rfl
 | cons i l ih =>
  intro hl
  have hi := hl i (by simp)
  have h5 := ih fun a ha => hl a (List.mem_cons_of_mem _ ha)
  rw [List.map_cons, List.filterMap_cons, h5, Array.getElem?_eq_getElem hi]
  rfl
/-- A drawn region with two pairs that do not commute. -/
theorem ylm {id : Nat} {QQ : Exit → St → Prop} {s : St} (hty : TyOk P ty) (hsz : ∀ t ti, ty t = some ti → ti.size ≠ 0) (p q p' q' : Nat) (f : Bool → Bool → List Nat)
  (hok : (zz ops .any && zz ops .text && zz ops .gc && [true, false].all fun x => [true, false].all fun y => ydQ ops [if x then (p, q) else (q, p), if y then (p', q') else (q', p')] (f x y) && List.isPerm (f x y) (List.range ops.size)) = true)
  (h : ∀ x y, UL P ty (yal s) N ops ((f x y).filterMap (ops[·]?)) (QQ .normal) s) : AWpR ρ P σ0 N (.region id ops true) QQ s := by
 simp only [Bool.and_eq_true, List.all_eq_true] at hok
 obtain ⟨⟨⟨g1, g2⟩, g3⟩, hall⟩ := hok
 refine ymN hty hsz (yal s) g1 g2 g3 rfl ⟨fun i cs h _ => h, fun o ob h _ => h⟩ fun l hp hl => ?_
 have hn : l.Nodup := hp.nodup_iff.2 List.nodup_range
 have hb : ∀ x : Bool, x ∈ [true, false] := fun x => by cases x <;> simp
 have hc := hall (decide (l.idxOf p < l.idxOf q)) (hb _) (decide (l.idxOf p' < l.idxOf q')) (hb _)
 generalize hx : decide (l.idxOf p < l.idxOf q) = x at hc
 generalize hy : decide (l.idxOf p' < l.idxOf q') = y at hc
 have hpc : (f x y).Perm (List.range ops.size) := List.isPerm_iff.1 hc.2
 have hlt : ∀ i, i ∈ f x y → i < ops.size := fun i hi => List.mem_range.1 (hpc.mem_iff.1 hi)
 refine yf1 l (f x y) (hp.trans hpc.symm) (fun i hi => List.mem_range.1 (hp.mem_iff.1 hi)) (fun c1 i hc1 k hk hl1 => ?_) (ygW _ (f x y) s (yrZ _ hlt) hlt (h x y))
 obtain ⟨c2, hc1⟩ := hc1
 obtain ⟨l1, l2, e1, e2⟩ := hl1
 rcases yfx hc.1 c1 i c2 hc1 k hk with h1 | h1 | h1
 ·exact absurd h1 (ykh hl l1 i l2 e1 k e2)
 ·exfalso
  have hlt := yrG hn e1 e2
  simp only [List.mem_cons, List.not_mem_nil, or_false] at h1
  rcases h1 with h1 | h1
  ·cases x with
   | true => simp at hx h1; obtain ⟨rfl, rfl⟩ := h1; omega
   | false => simp at hx h1; obtain ⟨rfl, rfl⟩ := h1; omega
  ·cases y with
   | true => simp at hy h1; obtain ⟨rfl, rfl⟩ := h1; omega
   | false => simp at hy h1; obtain ⟨rfl, rfl⟩ := h1; omega
 ·exact h1
theorem yg8 : ∀ (n : Nat) (l r : List Nat), l.Perm r → r.length = n → l ∈ perms n r
 | 0, l, r, hp, hn => by
  have : r = [] := List.eq_nil_of_length_eq_zero hn
  subst this
  have := hp.eq_nil
  subst this
  simp [perms]
 | n + 1, [], r, hp, hn => by have := hp.length_eq; simp at this; omega
 | n + 1, i :: l, r, hp, hn => by
  have hi : i ∈ r := hp.mem_iff.1 (by simp)
  rw [perms]
  refine List.mem_flatMap.2 ⟨i, hi, List.mem_map.2 ⟨l, yg8 n l (r.erase i) ?_ ?_, rfl⟩⟩
  ·have := hp.erase i
   simpa using this
  ·rw [List.length_erase_of_mem hi]; omega
def ylg (ops : Array Oper) : List Nat → Bool
 | [] => true
 | i :: l => (l.all fun k => !(precs ops ops.size i).contains k) && ylg ops l
theorem yi2 : ∀ {l : List Nat}, LinX ops l → ylg ops l = true
 | [], _ => rfl
 | i :: l, h => by
  simp only [ylg, Bool.and_eq_true, List.all_eq_true, Bool.not_eq_true', List.contains_eq_mem, decide_eq_false_iff_not]
  exact ⟨h.1, yi2 h.2⟩
/-- A small drawn region: every order. -/
theorem yjn {id : Nat} {QQ : Exit → St → Prop} {s : St} (hty : TyOk P ty) (hsz : ∀ t ti, ty t = some ti → ti.size ≠ 0) (ls : List (List Nat))
  (hok : (zz ops .any && zz ops .text && zz ops .gc && ((perms ops.size (List.range ops.size)).all fun l => !linXb ops l || ls.contains l)) = true)
  (h : ∀ l, l ∈ ls → yz P σ0 N ops (l.filterMap (ops[·]?)) (QQ .normal) s) : AWpR ρ P σ0 N (.region id ops true) QQ s := by
 simp only [Bool.and_eq_true, List.all_eq_true] at hok
 obtain ⟨⟨⟨g1, g2⟩, g3⟩, hall⟩ := hok
 rintro g0 w0 a w ⟨g, r⟩
 refine wpIn_region_draw fun t => opsW.wpIn _ ?_
 have hl0 : Listed ops (Array.replicate ops.size false) := by
  refine ⟨by simp, fun j hj => ?_⟩
  simp only [Array.getD_eq_getD_getElem?, Array.getElem?_replicate] at hj
  split at hj <;> simp at hj
 have hleft : left ops (Array.replicate ops.size false) = List.range ops.size := by
  simp only [left]
  refine List.filter_eq_self.2 (fun i hi => ?_)
  simp only [List.mem_range] at hi
  simp [Array.getD_eq_getD_getElem?, Array.getElem?_replicate, hi]
 have hr : RelG g0 σ0 w0 N g s a { w with drawn := w.drawn + 1 } := by
  have k := r.2.1.drewN (w' := { w with drawn := w.drawn + 1 }) rfl
  exact r.later (σ' := s.σ) (L' := s.L) k.2 (fun _ _ h => h) k.1 rfl rfl (fun _ _ => rfl) (Nat.le_refl _) rfl rfl rfl
 have go : ∀ (mode : Region.Mode) (t : Nat), zz ops mode = true → opsW P ops (lift g0 σ0 w0 N QQ) (Region.linearise mode ops t) a { w with drawn := w.drawn + 1 } := by
  intro mode t hg
  obtain ⟨rest, h1, h2, h2', _⟩ := yh9 (P := P) (V := yal s) (σ0 := σ0) (N := N) (Q := fun _ => False) hty hsz (mode := mode) hg (g0 := g0) (w0 := w0) (nx := lift g0 σ0 w0 N QQ) r.1.gl (fun s' a' w' q r' => q.elim) ops.size t (Array.replicate ops.size false) [] hl0 (by rw [hleft]; simp)
  rw [Region.linearise, h1]
  rw [hleft] at h2
  have hm := yg8 ops.size rest (List.range ops.size) h2 (by simp)
  have := hall rest hm
  simp only [yi2 h2', Bool.not_true, Bool.false_or, List.contains_eq_mem, decide_eq_true_eq] at this
  have hL := h rest this
  refine hL rest ?_ g0 w0 a _ (lift g0 σ0 w0 N QQ) ⟨g, hr⟩ (fun s' a' w' q r' => ⟨s', q, r'⟩)
  have hlt : ∀ i, i ∈ rest → i < ops.size := fun i hi => List.mem_range.1 (h2.mem_iff.1 hi)
  have key : ∀ l : List Nat, (∀ i, i ∈ l → i < ops.size) → l.map (ops[·]?) = (l.filterMap (ops[·]?)).map some := by
   intro l
   induction l with
   | nil => intro _; rfl
   | cons i l ih =>
    intro hl
    have hi := hl i (by simp)
    have h5 := ih fun a ha => hl a (List.mem_cons_of_mem _ ha)
    rw [List.map_cons, List.filterMap_cons, h5, Array.getElem?_eq_getElem hi]
    rfl
  exact key rest hlt
 unfold Region.schedule
 split
 ·exact go .any t g1
 ·split
  ·exact go .text _ g2
  ·exact go .gc _ g3
end
end Go.Aw

namespace Go.Aw
open Go
/-- A number behind a space. -/
def spS (i : Int) : ByteArray := ⟨#[32]⟩ ++ zW i
def bkK (p : List Int) (n : Int) (k : Nat) : ByteArray := (p.take k).foldl (fun s i => s ++ spS i) (zW n)
/-- A binding as text. -/
def bkS (p : List Int) (n : Int) : ByteArray := bkK p n p.length
theorem ycz (p : List Int) (n : Int) : bkK p n 0 = zW n := rfl
theorem yiO {p : List Int} {n : Int} {k : Nat} {i : Int} (h : p[k]? = some i) : bkK p n (k + 1) = bkK p n k ++ spS i := by
 unfold bkK
 rw [yA h, List.foldl_append]; rfl
theorem you {p : List Int} {n : Int} (hn : -9223372036854775808 ≤ n ∧ n ≤ 9223372036854775807) (hp : ∀ j, j ∈ p → 0 ≤ j ∧ j ≤ 1000000000) : ∀ k, k ≤ p.length → (bkK p n k).size ≤ 21 + 22 * k := by
 intro k
 induction k with
 | zero => intro _; rw [ycz]; have := ZS hn.1 hn.2; omega
 | succ k ih =>
  intro hk
  have hx : p[k]? = some (p[k]'(by omega)) := by simp
  have hj := hp _ (List.mem_of_getElem? hx)
  rw [yiO hx]
  have h1 := ih (by omega)
  have h2 := ZS (n := p[k]'(by omega)) (by omega) (by omega)
  have h3 : (spS (p[k]'(by omega))).size = 1 + (zW (p[k]'(by omega))).size := by unfold spS; rw [ByteArray.size_append]; rfl
  rw [ByteArray.size_append]; omega
mutual
/-- All symbols in data. -/
def symS : D → List ByteArray → List ByteArray
 | .mk k _ t l, S => yU l (if k = 2 then addS S t else S)
def yU : List D → List ByteArray → List ByteArray
 | [], S => S
 | d :: l, S => yU l (symS d S)
end
theorem ybF : ∀ (l : List D) (S : List ByteArray), yU l S = l.foldl (fun S d => symS d S) S
 | [], S => rfl
 | d :: l, S => by rw [yU, ybF l]; rfl
theorem ykr (d : D) (S : List ByteArray) : symS d S = yU d.kids (if d.kind = 2 then addS S d.text else S) := by cases d; rfl
theorem ykQ {l : List D} {k : Nat} {x : D} {S : List ByteArray} (h : l[k]? = some x) : yU (l.take (k + 1)) S = yU x.kids (if x.kind = 2 then addS (yU (l.take k) S) x.text else yU (l.take k) S) := by
 rw [ybF, yA h, List.foldl_append, List.foldl_cons, List.foldl_nil, ykr, ← ybF]
theorem ye2 (d : D) : ∀ S, (symS d S).length ≤ S.length + d.size := by
 induction d using D.ind with
 | _ k n t l ih =>
  intro S
  rw [ykr]
  show (yU l (if k = 2 then addS S t else S)).length ≤ _
  have h0 : (if k = 2 then addS S t else S).length ≤ S.length + 1 := by
   split
   ·exact ycE _ _
   ·omega
  generalize (if k = 2 then addS S t else S) = R at h0
  have : ∀ l : List D, (∀ x, x ∈ l → ∀ S, (symS x S).length ≤ S.length + x.size) → ∀ R, (yU l R).length ≤ R.length + D.sizes l := by
   intro l
   induction l with
   | nil => intro _ R; simp [yU]
   | cons x l ihl =>
    intro h R
    have h1 := h x (by simp) R
    have h2 := ihl (fun y hy => h y (by simp [hy])) (symS x R)
    simp only [yU, D.sizes]; omega
  have h1 := this l ih R
  simp only [D.size]; omega
theorem ymT (l : List D) (S : List ByteArray) : (yU l S).length ≤ S.length + D.sizes l := by
 have := ye2 (.mk 0 0 ⟨#[]⟩ l) S
 induction l generalizing S with
 | nil => simp [yU]
 | cons x l ih =>
  have h1 := ye2 x S
  have h2 := ih (symS x S) (ye2 _ _)
  simp only [yU, D.sizes]; omega
/-- The next name that is not among others; then it is. -/
def frS (S : List ByteArray) (n : Nat) : ByteArray := vS (nxtV S n : Int)
/-- New names of bindings around a place where a name of the other expression would be caught. -/
def sbTo (inn arn : List ByteArray) (p : List Int) (i : Int) (x : ByteArray) (S : List ByteArray) : ByteArray × List ByteArray :=
 if (memB inn x && memB arn (bkS p i)) = true then (frS S 0, addS S (frS S 0)) else (x, S)
theorem yoh (inn arn : List ByteArray) (p : List Int) (i : Int) (x : ByteArray) (S : List ByteArray) : (sbTo inn arn p i x S).2.length ≤ S.length + 1 := by
 unfold sbTo
 split
 ·exact ycE _ _
 ·exact Nat.le_succ _
end Go.Aw

namespace Go.Aw
open Go
section
variable {β : Type} {S : Type} (eb : β → PV)
variable (nam : D → List Int → List ByteArray → Int → S → List β × S) (vari : D → List Int → List (ByteArray × β) → S → S)
/-- The walk: what is bound at names, what is done at variables, in preorder. -/
def fk : D → List Int → List (ByteArray × β) → S → S :=
 scata (fun d rs p sc s =>
  if (yb d == 2) = true then vari d p sc s
  else if (yb d == 5 || yb d == 9) = true then
   match rs with
   | [q] => let r := nam d p (ownS d) 0 s; q.2 (p ++ q.1.p) (yB sc (ownS d) r.1) r.2
   | _ => s
  else if (yb d == 6) = true then
   match rs with
   | [q, q'] => let r := nam d p (ownS d) 0 s; q'.2 (p ++ q'.1.p) (yB sc (ownS d) r.1) (q.2 (p ++ q.1.p) sc r.2)
   | _ => s
  else if (yb d == 7) = true then
   let r := nam d p (ownS d) 0 s
   let inn := yB sc (ownS d) r.1
   let s' := ((d1 d.kids).kids.zip rs).zipIdx.foldl (fun s q =>
    let r2 := nam d p (parS q.1.1) (yV (d1 d.kids).kids q.2) s
    q.1.2.2 (p ++ q.1.2.1.p) (yB inn (parS q.1.1) r2.1) r2.2) r.2
   match rs.getLast? with
   | some q => q.2 (p ++ q.1.p) inn s'
   | none => s'
  else rs.foldl (fun s q => q.2 (p ++ q.1.p) sc s) s)
theorem yfo (d : D) (p : List Int) (sc : List (ByteArray × β)) (s : S) : fk nam vari d p sc s =
  if (yb d == 2) = true then vari d p sc s
  else if (yb d == 5 || yb d == 9) = true then
   match (subs d).map fun q => (q.1, fk nam vari q.2) with
   | [q] => let r := nam d p (ownS d) 0 s; q.2 (p ++ q.1.p) (yB sc (ownS d) r.1) r.2
   | _ => s
  else if (yb d == 6) = true then
   match (subs d).map fun q => (q.1, fk nam vari q.2) with
   | [q, q'] => let r := nam d p (ownS d) 0 s; q'.2 (p ++ q'.1.p) (yB sc (ownS d) r.1) (q.2 (p ++ q.1.p) sc r.2)
   | _ => s
  else if (yb d == 7) = true then
   let r := nam d p (ownS d) 0 s
   let inn := yB sc (ownS d) r.1
   let s' := ((d1 d.kids).kids.zip ((subs d).map fun q => (q.1, fk nam vari q.2))).zipIdx.foldl (fun s q =>
    let r2 := nam d p (parS q.1.1) (yV (d1 d.kids).kids q.2) s
    q.1.2.2 (p ++ q.1.2.1.p) (yB inn (parS q.1.1) r2.1) r2.2) r.2
   match ((subs d).map fun q => (q.1, fk nam vari q.2)).getLast? with
   | some q => q.2 (p ++ q.1.p) inn s'
   | none => s'
  else ((subs d).map fun q => (q.1, fk nam vari q.2)).foldl (fun s q => q.2 (p ++ q.1.p) sc s) s := by
 show scata (β := List Int → List (ByteArray × β) → S → S) _ d p sc s = _
 rw [Y5]; rfl
theorem yka {d : D} {p : List Int} {sc : List (ByteArray × β)} {s : S} (h : yb d = 2) : fk nam vari d p sc s = vari d p sc s := by
 rw [yfo, if_pos (by simpa using h)]
theorem ypj {d : D} {p : List Int} {sc : List (ByteArray × β)} {s : S} (h : yb d = 5 ∨ yb d = 9) :
  fk nam vari d p sc s = fk nam vari (d2 d.kids) (p ++ [2]) (yB sc (ownS d) (nam d p (ownS d) 0 s).1) (nam d p (ownS d) 0 s).2 := by
 rw [yfo, if_neg (by simp; omega), if_pos (by simpa using h), y4 h]; rfl
theorem ymC {d : D} {p : List Int} {sc : List (ByteArray × β)} {s : S} (h : yb d = 6) :
  fk nam vari d p sc s = fk nam vari (d.kids.getD 3 dnone) (p ++ [3]) (yB sc (ownS d) (nam d p (ownS d) 0 s).1) (fk nam vari (d2 d.kids) (p ++ [2]) sc (nam d p (ownS d) 0 s).2) := by
 rw [yfo, if_neg (by simp; omega), if_neg (by simp; omega), if_pos (by simpa using h), yQ h]; rfl
/-- What the first definitions of a rec leave. -/
def fkd (d : D) (p : List Int) (inn : List (ByteArray × β)) (k : Nat) (s : S) : S :=
 ((d1 d.kids).kids.take k).zipIdx.foldl (fun s q =>
  let r := nam d p (parS q.1) (yV (d1 d.kids).kids q.2) s
  fk nam vari (d2 q.1.kids) (p ++ [1, (q.2 : Int), 2]) (yB inn (parS q.1) r.1) r.2) s
theorem yeJ {d : D} {p : List Int} {inn : List (ByteArray × β)} {k : Nat} {s : S} {x : D} (h : (d1 d.kids).kids[k]? = some x) :
  fkd nam vari d p inn (k + 1) s = fk nam vari (d2 x.kids) (p ++ [1, (k : Int), 2]) (yB inn (parS x) (nam d p (parS x) (yV (d1 d.kids).kids k) (fkd nam vari d p inn k s)).1) (nam d p (parS x) (yV (d1 d.kids).kids k) (fkd nam vari d p inn k s)).2 := by
 have hk := (List.getElem?_eq_some_iff.1 h).1
 unfold fkd
 rw [yA h, List.zipIdx_append, List.foldl_append]
 have e : ([x] : List D).zipIdx (0 + ((d1 d.kids).kids.take k).length) = [(x, k)] := by simp; omega
 rw [e]; rfl
theorem ymE {d : D} {p : List Int} {sc : List (ByteArray × β)} {s : S} (h : yb d = 7) :
  fk nam vari d p sc s = fk nam vari (d2 d.kids) (p ++ [2]) (yB sc (ownS d) (nam d p (ownS d) 0 s).1) (fkd nam vari d p (yB sc (ownS d) (nam d p (ownS d) 0 s).1) (d1 d.kids).kids.length (nam d p (ownS d) 0 s).2) := by
 rw [yfo, if_neg (by simp; omega), if_neg (by simp; omega), if_neg (by simp; omega), if_pos (by simpa using h), y9 h]
 simp only [List.map_append, List.map_cons, List.map_nil, List.getLast?_append, List.getLast?_singleton, Option.or_some, Option.some_or, yeg, List.map_map]
 rw [show ((fun (q : Sub × D) => (q.1, fk nam vari q.2)) ∘ fun (q : D × Nat) => subR d q.2 q.1) = fun q => ((fun (x : D) (i : Nat) => ((subR d i x).1, fk nam vari (subR d i x).2)) q.1 q.2) from rfl]
 rw [ycI (fun (x : D) (i : Nat) => ((subR d i x).1, fk nam vari (subR d i x).2)), yby, List.foldl_map]
 unfold fkd
 rw [List.take_length]; rfl
/-- What the first parts leave, where nothing is bound. -/
def fks (d : D) (p : List Int) (sc : List (ByteArray × β)) (k : Nat) (s : S) : S := ((subs d).take k).foldl (fun s q => fk nam vari q.2 (p ++ q.1.p) sc s) s
theorem ye7 {d : D} {p : List Int} {sc : List (ByteArray × β)} {k : Nat} {s : S} {q : Sub × D} (h : (subs d)[k]? = some q) : fks nam vari d p sc (k + 1) s = fk nam vari q.2 (p ++ q.1.p) sc (fks nam vari d p sc k s) := by
 unfold fks
 rw [yA h, List.foldl_append]; rfl
theorem ykw {d : D} {p : List Int} {sc : List (ByteArray × β)} {s : S} (h : yb d ≠ 2 ∧ yb d ≠ 5 ∧ yb d ≠ 9 ∧ yb d ≠ 6 ∧ yb d ≠ 7) : fks nam vari d p sc (subs d).length s = fk nam vari d p sc s := by
 rw [yfo, if_neg (by simp; omega), if_neg (by simp; omega), if_neg (by simp; omega), if_neg (by simp; omega), List.foldl_map]
 unfold fks
 rw [List.take_length]
end
/-- The bindings of an expression's names, as text. -/
def kyS (p : List Int) (ns : List ByteArray) (n : Int) : List ByteArray := (List.range ns.length).map fun (i : Nat) => bkS p (n + (i : Int))
theorem ygu (p : List Int) (ns : List ByteArray) (n : Int) : (kyS p ns n).length = ns.length := by simp [kyS]
theorem yn9 (p : List Int) (ns : List ByteArray) (n : Int) {k : Nat} (h : k < ns.length) : (kyS p ns n).take (k + 1) = (kyS p ns n).take k ++ [bkS p (n + (k : Int))] := by
 apply yA
 simp [kyS, h]
abbrev FSt := List (List Int) × List ByteArray
def fndN (_d : D) (p : List Int) (ns : List ByteArray) (n : Int) (s : FSt) : List ByteArray × FSt := (kyS p ns n, s)
def fndV (x : ByteArray) (d : D) (p : List Int) (sc : List (ByteArray × ByteArray)) (s : FSt) : FSt :=
 if (decide (d.text = x) && !(Yv sc x).isSome) = true then (s.1 ++ [p], (sc.map (·.2)).foldl addS s.2) else s
/-- The places at which a name is free, and the bindings around them. -/
def fnd (x : ByteArray) : D → List Int → List (ByteArray × ByteArray) → FSt → FSt := fk fndN (fndV x)
theorem ycl (x : ByteArray) : ∀ (d : D) (p : List Int) (sc : List (ByteArray × ByteArray)) (s : FSt), s.1.length ≤ (fnd x d p sc s).1.length := by
 intro d
 unfold fnd
 induction d using D.indS with
 | h d ih =>
  intro p sc s
  by_cases h2 : yb d = 2
  ·rw [yka _ _ h2]; unfold fndV; split
   ·simp
   ·exact Nat.le_refl _
  by_cases h5 : yb d = 5 ∨ yb d = 9
  ·rw [ypj _ _ h5]
   have hq : subL d 2 (d2 d.kids) ∈ subs d := by rw [y4 h5]; simp
   exact ih _ hq _ _ s
  by_cases h6 : yb d = 6
  ·rw [ymC _ _ h6]
   have hq : (⟨[2], []⟩, d2 d.kids) ∈ subs d := by rw [yQ h6]; simp
   have hq3 : subL d 3 (d.kids.getD 3 dnone) ∈ subs d := by rw [yQ h6]; simp
   exact Nat.le_trans (ih _ hq (p ++ [2]) sc s) (ih _ hq3 _ _ _)
  by_cases h7 : yb d = 7
  ·rw [ymE _ _ h7]
   have hq : subL d 2 (d2 d.kids) ∈ subs d := by rw [y9 h7]; simp
   refine Nat.le_trans ?_ (ih _ hq _ _ _)
   have key : ∀ (inn : List (ByteArray × ByteArray)) (k : Nat), k ≤ (d1 d.kids).kids.length → s.1.length ≤ (fkd fndN (fndV x) d p inn k s).1.length := by
    intro inn k
    induction k with
    | zero => intro _; exact Nat.le_refl _
    | succ k ihk =>
     intro hk
     have hx : (d1 d.kids).kids[k]? = some ((d1 d.kids).kids[k]'(by omega)) := by simp
     rw [yeJ _ _ hx]
     have hm : subR d k ((d1 d.kids).kids[k]'(by omega)) ∈ subs d := by rw [y9 h7]; exact List.mem_append_left _ (List.mem_of_getElem? (by rw [zB, hx]; rfl))
     exact Nat.le_trans (ihk (by omega)) (ih _ hm _ _ _)
   exact key _ _ (Nat.le_refl _)
  ·have hr : yb d ≠ 2 ∧ yb d ≠ 5 ∧ yb d ≠ 9 ∧ yb d ≠ 6 ∧ yb d ≠ 7 := by omega
   rw [← ykw fndN (fndV x) hr]
   have key : ∀ k, k ≤ (subs d).length → s.1.length ≤ (fks fndN (fndV x) d p sc k s).1.length := by
    intro k
    induction k with
    | zero => intro _; exact Nat.le_refl _
    | succ k ihk =>
     intro hk
     have hx : (subs d)[k]? = some ((subs d)[k]'(by omega)) := by simp
     rw [ye7 _ _ hx]
     exact Nat.le_trans (ihk (by omega)) (ih _ (List.mem_of_getElem? hx) _ _ _)
   exact key _ (Nat.le_refl _)
theorem ypa (x : ByteArray) (d : D) (p : List Int) (inn : List (ByteArray × ByteArray)) (s : FSt) {j : Nat} : ∀ {k : Nat}, j ≤ k → k ≤ (d1 d.kids).kids.length → (fkd fndN (fndV x) d p inn j s).1.length ≤ (fkd fndN (fndV x) d p inn k s).1.length := by
 intro k hjk
 induction hjk with
 | refl => intro _; exact Nat.le_refl _
 | @step k hjk ih =>
  intro hk
  have hk : k + 1 ≤ (d1 d.kids).kids.length := hk
  have hx : (d1 d.kids).kids[k]? = some ((d1 d.kids).kids[k]'(by omega)) := by simp
  rw [yeJ _ _ hx]
  exact Nat.le_trans (ih (by omega)) (ycl x _ _ _ _)
theorem ypb (x : ByteArray) (d : D) (p : List Int) (sc : List (ByteArray × ByteArray)) (s : FSt) {j : Nat} : ∀ {k : Nat}, j ≤ k → k ≤ (subs d).length → (fks fndN (fndV x) d p sc j s).1.length ≤ (fks fndN (fndV x) d p sc k s).1.length := by
 intro k hjk
 induction hjk with
 | refl => intro _; exact Nat.le_refl _
 | @step k hjk ih =>
  intro hk
  have hk : k + 1 ≤ (subs d).length := hk
  have hx : (subs d)[k]? = some ((subs d)[k]'(by omega)) := by simp
  rw [ye7 _ _ hx]
  exact Nat.le_trans (ih (by omega)) (ycl x _ _ _ _)
theorem ynu {d : D} (hd : d.size ≤ 100000000) {q : Sub × D} (h : q ∈ subs d) : ∀ j, j ∈ q.1.p → 0 ≤ j ∧ j ≤ 1000000000 := yd7 hd (D.sub_subs h)
/-! ### where the places and the bindings are kept -/
def foU (opl om tk : Nat) (s : FSt) : List (Nat × AObj) := [(opl, .box [.acc (s.1.map wPV) tk]), (om, .map (tK s.2) (tV s.2))]
def foS (opl om tk : Nat) (Y : Store) (s : FSt) : Store := ⟨Y.gl, yL Y.objs (foU opl om tk s), Y.toks.modify tk fun t => { t with n := s.1.length }⟩
def FHas (T : TypeId) (opl om tk : Nat) (Y : Store) (s : FSt) : Prop := HasU Y (foU opl om tk s) ∧ Y.toks[tk]? = some ⟨s.1.length, T, 1⟩
def foX (x : ByteArray) (ox opl oar om ov : Nat) (vf : FuncId) : List (Nat × AObj) := [(ox, .box [.pv (.str x)]), (oar, .box [.map om]), (ov, .box [.func (.func vf) [.ptr ox 0, .ptr opl 0, .ptr oar 0, .ptr ov 0]])]
structure FnH (x : ByteArray) (ox opl oar om ov : Nat) (vf : FuncId) : Prop where
 hne : opl ≠ om
 hX : ∀ q, q ∈ foX x ox opl oar om ov vf → q.1 ∉ [opl, om]
section
variable {T : TypeId} {x : ByteArray} {ox opl oar om ov tk : Nat} {vf : FuncId} {Y : Store} {s s2 : FSt}
theorem Zo : (foU opl om tk s).map (·.1) = [opl, om] := rfl
theorem FHas.lt (h : FHas T opl om tk Y s) {i : Nat} (hi : i ∈ [opl, om]) : i < Y.objs.length := by
 rw [← Zo (tk := tk) (s := s)] at hi
 obtain ⟨q, hq, rfl⟩ := List.mem_map.1 hi
 exact h.1.lt hq
theorem FHas.ltk (h : FHas T opl om tk Y s) : tk < Y.toks.length := (List.getElem?_eq_some_iff.1 h.2).1
theorem zg : (foS opl om tk Y s).gl = Y.gl := rfl
theorem yco : (foS opl om tk Y s).objs = (updS Y (foU opl om tk s)).objs := rfl
theorem ZN {i : Nat} (h : i ∉ [opl, om]) : (foS opl om tk Y s).objs[i]? = Y.objs[i]? := zj h
theorem ygD {α : Type} {l : List α} {k : Nat} {x : α} (f : α → α) (h : l[k]? = some x) : l.modify k f = l.set k (f x) := by
 apply List.ext_getElem?
 intro i
 rw [List.getElem?_modify, List.getElem?_set]
 have hl := (List.getElem?_eq_some_iff.1 h).1
 split
 ·subst_vars
  rw [h]; rfl
 ·cases l[i]? <;> rfl
theorem yfa {n : Nat} (h : Y.toks[tk]? = some ⟨n, T, 1⟩) : (foS opl om tk Y s).toks = Y.toks.set tk ⟨s.1.length, T, 1⟩ := ygD _ h
theorem ybV {n : Nat} (h : Y.toks[tk]? = some ⟨n, T, 1⟩) : foS opl om tk Y s = ⟨Y.gl, yL Y.objs (foU opl om tk s), Y.toks.set tk ⟨s.1.length, T, 1⟩⟩ := by
 show (⟨Y.gl, yL Y.objs (foU opl om tk s), (foS opl om tk Y s).toks⟩ : Store) = _
 rw [yfa h]
theorem FHas.self (h : FHas T opl om tk Y s) : foS opl om tk Y s = Y := by
 rw [ybV h.2, yam h.1]
 have : Y.toks.set tk ⟨s.1.length, T, 1⟩ = Y.toks := by
  apply List.ext_getElem?
  intro i
  rw [List.getElem?_set]
  split
  ·subst_vars
   split
   ·exact h.2.symm
   ·rename_i hlt; exact absurd h.ltk hlt
  ·rfl
 rw [this]
theorem FHas.upd (hne : opl ≠ om) (h : FHas T opl om tk Y s) : FHas T opl om tk (foS opl om tk Y s2) s2 := by
 refine ⟨?_, ?_⟩
 ·intro q hq
  rw [yco]
  exact ycG (by rw [Zo]; simp [hne]) (fun q hq => h.lt (by rw [← Zo (tk := tk) (s := s2)]; exact List.mem_map.2 ⟨q, hq, rfl⟩)) q hq
 ·rw [yfa h.2, List.getElem?_set_self h.ltk]
theorem FHas.app (h : FHas T opl om tk Y s) (B : List AObj) : FHas T opl om tk ⟨Y.gl, Y.objs ++ B, Y.toks⟩ s := ⟨h.1.app B _, h.2⟩
theorem yg3 (hne : opl ≠ om) {n : Nat} (h : Y.toks[tk]? = some ⟨n, T, 1⟩) : foS opl om tk (foS opl om tk Y s) s2 = foS opl om tk Y s2 := by
 have hl := (List.getElem?_eq_some_iff.1 h).1
 have h2 : (foS opl om tk Y s).toks[tk]? = some ⟨s.1.length, T, 1⟩ := by rw [yfa h, List.getElem?_set_self hl]
 rw [ybV h2, ybV h]
 simp only
 rw [ybV h]
 rw [yav (by rw [Zo]; simp [hne]) (by rw [Zo, Zo]; exact fun _ h => h), List.set_set]
theorem FHas.cut (h : FHas T opl om tk Y s) (B : List AObj) {no nt : Nat} (hno : no = Y.objs.length) (hnt : nt = Y.toks.length) : (foS opl om tk ⟨Y.gl, Y.objs ++ B, Y.toks⟩ s2).cut no nt = foS opl om tk Y s2 := by
 subst hno; subst hnt
 have hk : (⟨Y.gl, Y.objs ++ B, Y.toks⟩ : Store).toks[tk]? = some ⟨s.1.length, T, 1⟩ := h.2
 rw [ybV hk, ybV h.2]
 have hlt : ∀ q, q ∈ foU opl om tk s2 → q.1 < Y.objs.length := fun q hq => h.lt (by rw [← Zo (tk := tk) (s := s2)]; exact List.mem_map.2 ⟨q, hq, rfl⟩)
 rw [ycC hlt]
 unfold Store.cut
 simp only
 rw [List.take_left' (zl _ _), List.take_of_length_le (by simp)]
theorem ydZ (H : FnH x ox opl oar om ov vf) (h : HasU Y (foX x ox opl oar om ov vf)) : HasU (foS opl om tk Y s) (foX x ox opl oar om ov vf) := fun q hq => by
 rw [ZN (H.hX q hq)]; exact h q hq
/-- A round's end: the record is as it was. -/
theorem ypN {r : Nat} {a b : AObj} (h : r ∉ [opl, om]) (ha : Y.objs[r]? = some a) : { foS opl om tk { Y with objs := Y.objs.set r b } s with objs := ((foS opl om tk { Y with objs := Y.objs.set r b } s).objs).set r a } = foS opl om tk Y s := by
 have h1 := yhQ (X := Y) (V := foU opl om tk s) (b := b) h ha
 have h2 := congrArg Store.objs h1
 simp only at h2
 have h3 : (foS opl om tk { Y with objs := Y.objs.set r b } s).toks = (foS opl om tk Y s).toks := rfl
 show (⟨(foS opl om tk { Y with objs := Y.objs.set r b } s).gl, ((foS opl om tk { Y with objs := Y.objs.set r b } s).objs).set r a, (foS opl om tk { Y with objs := Y.objs.set r b } s).toks⟩ : Store) = ⟨(foS opl om tk Y s).gl, (foS opl om tk Y s).objs, (foS opl om tk Y s).toks⟩
 rw [h3, zg, zg, yco, yco, h2]
theorem FHas.set (h : FHas T opl om tk Y s) {i : Nat} {ob : AObj} (hi : i ∉ [opl, om]) : FHas T opl om tk { Y with objs := Y.objs.set i ob } s := ⟨ycj h.1 hi, h.2⟩
/-- What lies behind is let go. -/
theorem yrs {P : Program} {f : FuncId} {args : List AV} {r0 : AV} (hh : FHas T opl om tk Y s) (hrn : WVt Y.objs.length Y.toks.length 0 r0 r0)
  (h : ACalls P f args Y fun r σ' => r = r0 ∧ σ'.cut Y.objs.length Y.toks.length = foS opl om tk Y s2) : ACalls P f args Y fun r σ' => r = r0 ∧ σ' = foS opl om tk Y s2 := by
 refine h.less fun r σ' ⟨h1, h2⟩ => ⟨_, _, r0, by subst h1; exact hrn, Nat.le_refl _, Nat.le_refl _, fun ob hob => ?_, rfl, h2⟩
 have : σ'.objs.take Y.objs.length = (foS opl om tk Y s2).objs := congrArg Store.objs h2
 rw [this, yco] at hob
 rcases ZK hob with h | ⟨q, hq, rfl⟩
 ·exact .inl h
 ·refine .inr ?_
  have h3 := hh.ltk
  simp only [foU, List.mem_cons, List.not_mem_nil, or_false] at hq
  rcases hq with rfl | rfl
  ·simp [AObj.clo, AV.clos, AV.clo, h3]
  ·rfl
end
section
variable {x : ByteArray} {d : D} {p : List Int} {sc : List (ByteArray × ByteArray)} {s : FSt}
def fndD (x : ByteArray) (d : D) (p : List Int) (inn : List (ByteArray × ByteArray)) (k : Nat) (s : FSt) : FSt := fkd fndN (fndV x) d p inn k s
def fndS (x : ByteArray) (d : D) (p : List Int) (sc : List (ByteArray × ByteArray)) (k : Nat) (s : FSt) : FSt := fks fndN (fndV x) d p sc k s
theorem yiy (h : yb d = 2) : fnd x d p sc s = if (decide (d.text = x) && !(Yv sc x).isSome) = true then (s.1 ++ [p], (sc.map (·.2)).foldl addS s.2) else s := yka _ _ h
theorem yiR (h : yb d = 5 ∨ yb d = 9) : fnd x d p sc s = fnd x (d2 d.kids) (p ++ [2]) (yB sc (ownS d) (kyS p (ownS d) 0)) s := ypj _ _ h
theorem ykq (h : yb d = 6) : fnd x d p sc s = fnd x (d.kids.getD 3 dnone) (p ++ [3]) (yB sc (ownS d) (kyS p (ownS d) 0)) (fnd x (d2 d.kids) (p ++ [2]) sc s) := ymC _ _ h
theorem yj1 (h : yb d = 7) : fnd x d p sc s = fnd x (d2 d.kids) (p ++ [2]) (yB sc (ownS d) (kyS p (ownS d) 0)) (fndD x d p (yB sc (ownS d) (kyS p (ownS d) 0)) (d1 d.kids).kids.length s) := ymE _ _ h
theorem ygR {inn : List (ByteArray × ByteArray)} {k : Nat} {y : D} (h : (d1 d.kids).kids[k]? = some y) : fndD x d p inn (k + 1) s = fnd x (d2 y.kids) (p ++ [1, (k : Int), 2]) (yB inn (parS y) (kyS p (parS y) (yV (d1 d.kids).kids k))) (fndD x d p inn k s) := yeJ _ _ h
theorem ydG {k : Nat} {q : Sub × D} (h : (subs d)[k]? = some q) : fndS x d p sc (k + 1) s = fnd x q.2 (p ++ q.1.p) sc (fndS x d p sc k s) := ye7 _ _ h
theorem yeV (h : yb d ≠ 2 ∧ yb d ≠ 5 ∧ yb d ≠ 9 ∧ yb d ≠ 6 ∧ yb d ≠ 7) : fndS x d p sc (subs d).length s = fnd x d p sc s := ykw _ _ h
theorem ypI {inn : List (ByteArray × ByteArray)} {j k : Nat} (h1 : j ≤ k) (h2 : k ≤ (d1 d.kids).kids.length) : (fndD x d p inn j s).1.length ≤ (fndD x d p inn k s).1.length := ypa x d p inn s h1 h2
theorem yqm {j k : Nat} (h1 : j ≤ k) (h2 : k ≤ (subs d).length) : (fndS x d p sc j s).1.length ≤ (fndS x d p sc k s).1.length := ypb x d p sc s h1 h2
theorem yqb {T : TypeId} {opl om tk : Nat} {Y : Store} {n : Nat} (hne : opl ≠ om) (h : Y.toks[tk]? = some ⟨n, T, 1⟩) (ho : opl < Y.objs.length) (l : List (List Int)) (R : List ByteArray) (hm : Y.objs[om]? = some (.map (tK R) (tV R))) :
  (⟨Y.gl, Y.objs.set opl (.box [.acc (l.map wPV) tk]), Y.toks.modify tk fun t => { t with n := l.length }⟩ : Store) = foS opl om tk Y (l, R) := by
 unfold foS foU
 simp only [yL]
 have : (Y.objs.set opl (.box [.acc (l.map wPV) tk])).set om (.map (tK R) (tV R)) = Y.objs.set opl (.box [.acc (l.map wPV) tk]) := by
  apply List.ext_getElem?
  intro i
  rw [List.getElem?_set]
  split
  ·subst_vars
   have := (List.getElem?_eq_some_iff.1 hm).1
   simp only [List.length_set, this, if_true]
   rw [List.getElem?_set_ne hne, hm]
  ·rfl
 rw [this]
theorem yo0 {opl om tk : Nat} {Y : Store} {l : List (List Int)} {R R2 : List ByteArray} : setS (foS opl om tk Y (l, R)) om R2 = foS opl om tk Y (l, R2) := by
 unfold foS foU setS
 simp only [yL, List.set_set]
end
theorem ZZ {p q : List Int} (h1 : ∀ j, j ∈ p → 0 ≤ j ∧ j ≤ 1000000000) (h2 : ∀ j, j ∈ q → 0 ≤ j ∧ j ≤ 1000000000) : ∀ j, j ∈ p ++ q → 0 ≤ j ∧ j ≤ 1000000000 := fun j hj => (List.mem_append.1 hj).elim (h1 j) (h2 j)
theorem yot {opl om tk : Nat} {A : List AObj} {g : List (Nat × PV)} {tks : List Tok} {a b c : AObj} {s : FSt} (h : A.length + 1 ∉ [opl, om]) :
  (⟨g, (foS opl om tk ⟨g, A ++ [a, b], tks⟩ s).objs.set (A.length + 1) c, (foS opl om tk ⟨g, A ++ [a, b], tks⟩ s).toks⟩ : Store) = foS opl om tk ⟨g, A ++ [a, c], tks⟩ s := by
 have key : (yL (A ++ [a, b]) (foU opl om tk s)).set (A.length + 1) c = yL (A ++ [a, c]) (foU opl om tk s) := by
  simp only [List.mem_cons, List.not_mem_nil, or_false, not_or] at h
  unfold foU
  simp only [yL]
  have h1 : opl ≠ A.length + 1 := fun e => h.1 e.symm
  have h2 : om ≠ A.length + 1 := fun e => h.2 e.symm
  rw [List.set_comm _ c h2, List.set_comm _ c h1]
  have e : (A ++ [a, b]).set (A.length + 1) c = A ++ [a, c] := by rw [List.set_append_right _ _ (by omega)]; simp
  rw [e]
 show (⟨g, (yL (A ++ [a, b]) (foU opl om tk s)).set (A.length + 1) c, tks.modify tk fun t => { t with n := s.1.length }⟩ : Store) = _
 rw [key]; rfl
end Go.Aw

namespace Go.Aw
open Go
section
variable {ρ : Option Nat} {P : Program} {σ0 : Store} {N : Nat} {s : St}
theorem ylp {c : Code} {Q : Exit → St → Prop} (i : Nat) (e : TypeId) (sz : Nat) (hi : s.σ.objs[i]? = some (.box [.pv .nils]))
  (k : AWpR ρ P σ0 N c Q { s with σ := ⟨s.σ.gl, s.σ.objs.set i (.box [.acc [] s.σ.toks.length]), s.σ.toks ++ [⟨0, e, sz⟩]⟩ }) : AWpR ρ P σ0 N c Q s := by
 rintro g0 w0 a w ⟨g, r⟩
 obtain ⟨i1, le1⟩ := r.2.1.adopt ⟨0, e, sz⟩
 have r' := r.later (σ' := { s.σ with toks := s.σ.toks ++ [⟨0, e, sz⟩] }) (L' := s.L) le1 (fun _ _ h => h) i1 rfl rfl (fun _ _ => rfl) (Nat.le_refl _) rfl rfl rfl
 refine k g0 w0 a w ⟨_, r'.setTell (i := i) (ob := .box [.pv .nils]) (ob' := .box [.acc [] s.σ.toks.length]) hi fun b hb => ?_⟩
 obtain ⟨h1, vs, el, h2, h3, h4, h5⟩ := hb
 refine ⟨fun x hx => ?_, vs, el, h2, h3, h4, fun j x v hx hv => ?_⟩
 ·rw [List.mem_singleton] at hx; subst hx; rfl
 ·cases j with
  | succ j => simp at hx
  | zero =>
   simp at hx; subst hx
   have h6 := h5 0 (.pv .nils) v rfl hv
   cases h6 with
   | pv h6 =>
    have h7 := h6.nils_inv
    subst h7
    exact .acc .empty (t := ⟨0, e, sz⟩) (by simp) (Nat.zero_le _) (by simp) (fun _ => .inr ⟨none, rfl⟩)
end
/-- Objects and tokens up to a number are kept. -/
theorem ACalls.keepTo2 {P : Program} {f : FuncId} {args : List AV} {σ : Store} {r0 : AV} {Y : Store} (no nt : Nat) (h0 : σ.objs.length ≤ no) (h1 : σ.toks.length ≤ nt) (hc : ∀ ob, ob ∈ Y.objs → ob ∈ σ.objs ∨ ob.clo no nt 0 = true)
  (h : ACalls P f args σ fun r σ' => WVt no nt 0 r r0 ∧ σ'.cut no nt = Y) : ACalls P f args σ fun r σ' => r = r0 ∧ σ' = Y := by
 refine h.less fun r σ' ⟨h2, h3⟩ => ⟨_, _, r0, h2, h0, h1, fun ob hob => ?_, rfl, h3⟩
 have : σ'.objs.take no = Y.objs := congrArg Store.objs h3
 rw [this] at hob
 exact hc ob hob
theorem ynI {α : Type} {l : List α} {a b c y : α} : (l ++ [a, b, c]).set (l.length + 1) y = l ++ [a, y, c] := by
 rw [List.set_append_right _ _ (by omega)]; simp
theorem yp7 {T : TypeId} {A : List AObj} {g : List (Nat × PV)} {tks : List Tok} {a b c e : AObj} {s : FSt} :
  foS (A.length + 1) (A.length + 3) tks.length ⟨g, A ++ [a, b, c, .map [] [], e], tks ++ [⟨0, T, 1⟩]⟩ s = ⟨g, A ++ [a, .box [.acc (s.1.map wPV) tks.length], c, .map (tK s.2) (tV s.2), e], tks ++ [⟨s.1.length, T, 1⟩]⟩ := by
 unfold foS foU
 have e1 : ∀ x y : AObj, ((A ++ [a, b, c, .map [] [], e]).set (A.length + 1) x).set (A.length + 3) y = A ++ [a, x, c, y, e] := by
  intro x y
  rw [List.set_append_right _ _ (by omega), List.set_append_right _ _ (by omega)]; simp
 have e2 : ∀ f : Tok → Tok, (tks ++ [(⟨0, T, 1⟩ : Tok)]).modify tks.length f = tks ++ [f ⟨0, T, 1⟩] := by
  intro f
  rw [ygD f (x := (⟨0, T, 1⟩ : Tok)) (by simp)]; simp
 simp only [yL, e1, e2]
end Go.Aw

namespace Go.Aw
open Go
def AD.graft : AD → List Int → AD → AD
 | _, [], u => u
 | .mk k n t o l, i :: p, u => match l[i.toNat]? with
  | some c => .mk k n t o (l.set i.toNat (AD.graft c p u))
  | none => .mk k n t o l
def D.graft : D → List Int → D → D
 | _, [], u => u
 | .mk k n t l, i :: p, u => match l[i.toNat]? with
  | some c => .mk k n t (l.set i.toNat (D.graft c p u))
  | none => .mk k n t l
theorem AD.graft_dat : ∀ (p : List Int) (t u : AD), (t.graft p u).dat = t.dat.graft p u.dat
 | [], t, u => by cases t; rfl
 | i :: p, .mk k n tx o l, u => by
  simp only [AD.graft, AD.dat, D.graft, AD.dats_map, List.getElem?_map]
  cases h : l[i.toNat]? with
  | none => simp [AD.dat, AD.dats_map]
  | some c => simp [AD.dat, AD.dats_map, List.map_set, AD.graft_dat p c u]
/-- A place that is not below another one is still there. -/
theorem D.graft_sub (u : D) : ∀ (q p : List Int) (d x : D), (∀ j, j ∈ q → 0 ≤ j) → d.sub p = some x → (∀ i r, p ≠ q ++ i :: r) → ∃ y, (d.graft q u).sub p = some y
 | [], p, d, x, h0, h, hq => by
  cases p with
  | nil => exact ⟨_, rfl⟩
  | cons i r => exact (hq i r rfl).elim
 | j :: q, p, .mk k n t l, x, h0, h, hq => by
  cases p with
  | nil => exact ⟨_, rfl⟩
  | cons i r =>
   simp only [D.sub, D.kids] at h
   split at h
   ·rename_i hi
    obtain ⟨c, hc, hcx⟩ := Option.bind_eq_some_iff.1 h
    simp only [D.graft]
    cases hj : l[j.toNat]? with
    | none =>
     refine ⟨x, ?_⟩
     simp only [D.sub, D.kids]
     rw [if_pos hi, hc]; exact hcx
    | some e =>
     simp only [D.sub, D.kids]
     rw [if_pos hi, List.getElem?_set]
     by_cases hij : j.toNat = i.toNat
     ·have hj0 := h0 j (by simp)
      have hji : j = i := by omega
      subst hji
      rw [if_pos rfl, if_pos (List.getElem?_eq_some_iff.1 hc).1]
      rw [hc] at hj
      cases hj
      simp only [Option.bind_some]
      exact D.graft_sub u q r c x (fun a ha => h0 a (by simp [ha])) hcx fun i' r' e => hq i' r' (by rw [e]; rfl)
     ·rw [if_neg hij, hc]
      exact ⟨x, hcx⟩
   ·cases h
theorem AD.graft_sub (u : AD) {q p : List Int} {t x : AD} (h0 : ∀ j, j ∈ q → 0 ≤ j) (h : t.sub p = some x) (hq : ∀ i r, p ≠ q ++ i :: r) : ∃ y, (t.graft q u).sub p = some y := by
 obtain ⟨y, hy⟩ := D.graft_sub u.dat q p t.dat x.dat h0 (by rw [AD.sub_dat, h]; rfl) hq
 rw [← AD.graft_dat, AD.sub_dat] at hy
 obtain ⟨z, hz, _⟩ := Option.map_eq_some_iff.1 hy
 exact ⟨z, hz⟩
theorem yjQ {pre c post u : List AV} (h : u.length = c.length) : overlay (pre ++ c ++ post) pre.length u = pre ++ u ++ post := by
 unfold overlay
 rw [show pre ++ c ++ post = pre ++ (c ++ post) from List.append_assoc _ _ _, List.take_left' rfl, h, ← List.append_assoc pre c post, List.drop_left' (by simp), List.append_assoc]
/-- Another tree is written at a place. -/
theorem AD.graftW {σ : Store} (u : AD) (hun : (u.arrs.map (·.1)).Nodup) (huH : HasU σ u.arrs) : ∀ (p : List Int) (t x : AD) (o : Nat) (pre post : List AV), HasU σ (za o pre post t) → ((za o pre post t).map (·.1)).Nodup → (∀ k, k ∈ (za o pre post t).map (·.1) → k ∉ u.arrs.map (·.1)) → t.sub p = some x →
  ∃ cells, σ.objs[(AD.loc (o, pre.length) t p).1]? = some (.arr cells) ∧ (AD.loc (o, pre.length) t p).2 + 4 ≤ cells.length ∧
   HasU ({ σ with objs := σ.objs.set (AD.loc (o, pre.length) t p).1 (.arr (overlay cells (AD.loc (o, pre.length) t p).2 u.cells)) } : Store) (za o pre post (t.graft p u)) ∧
   ((za o pre post (t.graft p u)).map (·.1)).Nodup ∧ (∀ k, k ∈ (t.graft p u).arrs.map (·.1) → k ∈ t.arrs.map (·.1) ∨ k ∈ u.arrs.map (·.1)) ∧ (AD.loc (o, pre.length) t p).1 ∈ (za o pre post t).map (·.1)
 | [], t, x, o, pre, post, h, hn, hd, hx => by
  have ho := h _ (List.mem_cons_self)
  have hou : o ∉ u.arrs.map (·.1) := hd o (by simp [za])
  refine ⟨_, ho, by simp [AD.loc, AD.cells_len], ?_, ?_, fun k hk => .inr hk, by simp [AD.loc, za]⟩
  ·intro q hq
   simp only [AD.loc, AD.graft] at hq ⊢
   rw [yjQ (by rw [AD.cells_len, AD.cells_len])]
   rcases List.mem_cons.1 hq with e | hq2
   ·subst e; exact List.getElem?_set_self (List.getElem?_eq_some_iff.1 ho).1
   ·rw [List.getElem?_set_ne (by intro e; exact hou (by rw [e]; exact List.mem_map.2 ⟨q, hq2, rfl⟩))]
    exact huH q hq2
  ·exact List.nodup_cons.2 ⟨hou, hun⟩
 | i :: p, .mk k n tx o' l, x, o, pre, post, h, hn, hd, hx => by
  simp only [AD.sub] at hx
  split at hx
  ·obtain ⟨c, hc, hx⟩ := Option.bind_eq_some_iff.1 hx
   simp only [AD.kids] at hc
   obtain ⟨h1, h2⟩ := ybj (c' := c.graft p u) hc
   have hne : l ≠ [] := by intro e; rw [e] at hc; simp at hc
   have hl : ((l.take i.toNat).flatMap AD.cells).length = i.toNat * 4 := by
    rw [zw, List.length_take, Nat.min_eq_left (Nat.le_of_lt (List.getElem?_eq_some_iff.1 hc).1)]; omega
   generalize hA : l.take i.toNat = A at *
   generalize hB : l.drop (i.toNat + 1) = B at *
   have hrow : (AD.mk k n tx o' l).arrs = (o', .arr (A.flatMap AD.cells ++ c.cells ++ B.flatMap AD.cells)) :: (A.flatMap AD.arrs ++ c.arrs ++ B.flatMap AD.arrs) := by
    rw [AD.arrs, Zq hne, AD.arrss_flat, h1]; simp
   have hset : (AD.mk k n tx o' l).graft (i :: p) u = .mk k n tx o' (A ++ c.graft p u :: B) := by
    simp only [AD.graft, hc, h2]
   have hrow' : ((AD.mk k n tx o' l).graft (i :: p) u).arrs = (o', .arr (A.flatMap AD.cells ++ (c.graft p u).cells ++ B.flatMap AD.cells)) :: (A.flatMap AD.arrs ++ (c.graft p u).arrs ++ B.flatMap AD.arrs) := by
    rw [hset, AD.arrs, Zq (by simp), AD.arrss_flat]; simp
   have hcells : ((AD.mk k n tx o' l).graft (i :: p) u).cells = (AD.mk k n tx o' l).cells := by
    rw [hset, AD.cells, AD.cells, yiL (l := A ++ c.graft p u :: B) (r := l)]
    rw [h1]; simp
   have hsub : ∀ q, q ∈ za o' (A.flatMap AD.cells) (B.flatMap AD.cells) c → q ∈ za o pre post (AD.mk k n tx o' l) := by
    intro q hq
    refine List.mem_cons_of_mem _ ?_
    rw [hrow]
    rcases List.mem_cons.1 hq with rfl | hq
    ·exact List.mem_cons_self
    ·exact List.mem_cons_of_mem _ (List.mem_append_left _ (List.mem_append_right _ hq))
   have hkeys : (za o pre post (AD.mk k n tx o' l)).map (·.1) = o :: o' :: ((A.flatMap AD.arrs).map (·.1) ++ c.arrs.map (·.1) ++ (B.flatMap AD.arrs).map (·.1)) := by
    rw [zL, hrow]; simp
   rw [hkeys] at hn hd
   have hn1 := List.nodup_cons.1 hn
   have hn2 := List.nodup_cons.1 hn1.2
   have hn3 := List.nodup_append.1 hn2.2
   have hn4 := List.nodup_append.1 hn3.1
   have hnc : ((za o' (A.flatMap AD.cells) (B.flatMap AD.cells) c).map (·.1)).Nodup := by
    rw [zL]
    exact List.nodup_cons.2 ⟨fun hm => hn2.1 (List.mem_append_left _ (List.mem_append_right _ hm)), hn4.2.1⟩
   have hcin : ∀ a, a ∈ (za o' (A.flatMap AD.cells) (B.flatMap AD.cells) c).map (·.1) → a = o' ∨ a ∈ c.arrs.map (·.1) := fun a ha => by rw [zL] at ha; exact List.mem_cons.1 ha
   obtain ⟨cells, k1, k2, k3, k4, k5, k6⟩ := AD.graftW u hun huH p c x o' (A.flatMap AD.cells) (B.flatMap AD.cells) (fun q hq => h q (hsub q hq)) hnc (fun a ha => hd a (by
    rcases hcin a ha with e | e
    ·rw [e]; simp
    ·exact List.mem_cons_of_mem _ (List.mem_cons_of_mem _ (List.mem_append_left _ (List.mem_append_right _ e))))) hx
   rw [hl] at k1 k2 k3 k6
   have hrin := hcin _ k6
   simp only [AD.loc, AD.kids, hc, AD.o]
   generalize AD.loc (o', i.toNat * 4) c p = lc at k1 k2 k3 k6 hrin ⊢
   have hc'n : ∀ a, a ∈ (c.graft p u).arrs.map (·.1) → a ∈ c.arrs.map (·.1) ∨ a ∈ u.arrs.map (·.1) := k5
   have hout : ∀ q, q ∈ za o pre post (AD.mk k n tx o' l) → q.1 ≠ lc.1 → (σ.objs.set lc.1 (.arr (overlay cells lc.2 u.cells)))[q.1]? = some q.2 := fun q hq hne2 => by
    rw [List.getElem?_set_ne (fun e => hne2 e.symm)]; exact h q hq
   have hlo : o ≠ lc.1 := by
    intro e
    rcases hrin with e2 | e2
    ·exact hn1.1 (by rw [e, e2]; simp)
    ·exact hn1.1 (by rw [e]; exact List.mem_cons_of_mem _ (List.mem_append_left _ (List.mem_append_right _ e2)))
   refine ⟨cells, k1, k2, fun q hq => ?_, ?_, fun a ha => ?_, ?_⟩
   ·unfold za at hq
    rw [hrow', hcells] at hq
    rcases List.mem_cons.1 hq with rfl | hq
    ·exact hout _ (List.mem_cons_self) hlo
    ·rcases List.mem_cons.1 hq with rfl | hq
     ·exact k3 _ (List.mem_cons_self)
     ·rcases List.mem_append.1 hq with hq | hq
      ·rcases List.mem_append.1 hq with hq | hq
       ·have hm1 : q.1 ∈ (A.flatMap AD.arrs).map (·.1) := List.mem_map.2 ⟨q, hq, rfl⟩
        refine hout q (List.mem_cons_of_mem _ (by rw [hrow]; exact List.mem_cons_of_mem _ (List.mem_append_left _ (List.mem_append_left _ hq)))) fun e => ?_
        rcases hrin with e2 | e2
        ·exact hn2.1 (by rw [← e2, ← e]; exact List.mem_append_left _ (List.mem_append_left _ hm1))
        ·exact hn4.2.2 _ hm1 _ e2 e
       ·exact k3 _ (List.mem_cons_of_mem _ hq)
      ·have hm1 : q.1 ∈ (B.flatMap AD.arrs).map (·.1) := List.mem_map.2 ⟨q, hq, rfl⟩
       refine hout q (List.mem_cons_of_mem _ (by rw [hrow]; exact List.mem_cons_of_mem _ (List.mem_append_right _ hq))) fun e => ?_
       rcases hrin with e2 | e2
       ·exact hn2.1 (by rw [← e2, ← e]; exact List.mem_append_right _ hm1)
       ·exact hn3.2.2 _ (List.mem_append_right _ e2) _ hm1 e.symm
   ·have e1 : (za o pre post ((AD.mk k n tx o' l).graft (i :: p) u)).map (·.1) = o :: o' :: ((A.flatMap AD.arrs).map (·.1) ++ (c.graft p u).arrs.map (·.1) ++ (B.flatMap AD.arrs).map (·.1)) := by
     rw [zL, hrow']; simp
    rw [e1]
    have k4' := List.nodup_cons.1 (by rw [zL] at k4; exact k4)
    have du : ∀ a, a ∈ o :: o' :: ((A.flatMap AD.arrs).map (·.1) ++ c.arrs.map (·.1) ++ (B.flatMap AD.arrs).map (·.1)) → a ∉ u.arrs.map (·.1) := hd
    refine List.nodup_cons.2 ⟨fun hm => ?_, List.nodup_cons.2 ⟨fun hm => ?_, List.nodup_append.2 ⟨List.nodup_append.2 ⟨hn4.1, k4'.2, fun a ha b hb e => ?_⟩, hn3.2.1, fun a ha b hb e => ?_⟩⟩⟩
    ·rcases List.mem_cons.1 hm with e | hm
     ·exact hn1.1 (by rw [e]; exact List.mem_cons_self)
     ·rcases List.mem_append.1 hm with hm | hm
      ·rcases List.mem_append.1 hm with hm | hm
       ·exact hn1.1 (List.mem_cons_of_mem _ (List.mem_append_left _ (List.mem_append_left _ hm)))
       ·rcases hc'n _ hm with hm | hm
        ·exact hn1.1 (List.mem_cons_of_mem _ (List.mem_append_left _ (List.mem_append_right _ hm)))
        ·exact du o (by simp) hm
      ·exact hn1.1 (List.mem_cons_of_mem _ (List.mem_append_right _ hm))
    ·rcases List.mem_append.1 hm with hm | hm
     ·rcases List.mem_append.1 hm with hm | hm
      ·exact hn2.1 (List.mem_append_left _ (List.mem_append_left _ hm))
      ·exact k4'.1 hm
     ·exact hn2.1 (List.mem_append_right _ hm)
    ·subst e
     rcases hc'n _ hb with hb | hb
     ·exact hn4.2.2 _ ha _ hb rfl
     ·exact du a (List.mem_cons_of_mem _ (List.mem_cons_of_mem _ (List.mem_append_left _ (List.mem_append_left _ ha)))) hb
    ·subst e
     rcases List.mem_append.1 ha with ha | ha
     ·exact hn3.2.2 _ (List.mem_append_left _ ha) _ hb rfl
     ·rcases hc'n _ ha with ha | ha
      ·exact hn3.2.2 _ (List.mem_append_right _ ha) _ hb rfl
      ·exact du a (List.mem_cons_of_mem _ (List.mem_cons_of_mem _ (List.mem_append_right _ hb))) ha
   ·rw [hrow'] at ha
    rw [hrow]
    simp only [List.map_cons, List.map_append, List.mem_cons, List.mem_append] at ha ⊢
    rcases ha with e | (ha | ha) | ha
    ·exact .inl (.inl e)
    ·exact .inl (.inr (.inl (.inl ha)))
    ·rcases hc'n a ha with h3 | h3
     ·exact .inl (.inr (.inl (.inr h3)))
     ·exact .inr h3
    ·exact .inl (.inr (.inr ha))
   ·rw [hkeys]
    rcases hrin with e | e
    ·rw [e]; simp
    ·exact List.mem_cons_of_mem _ (List.mem_cons_of_mem _ (List.mem_append_left _ (List.mem_append_right _ e)))
  ·cases hx
end Go.Aw

namespace Go.Aw
open Go
section
variable {ρ : Option Nat} {P : Program} {σ0 : Store} {N : Nat} {s : St} {Q : Exit → St → Prop}
/-- The cells of a datum. -/
def ybP (d : D) : List AV := [.pv (.int .i64 d.kind), .pv (.int .i64 d.num), .pv (.str d.text), .pv (.slice (d.kids.map enc))]
theorem ygn {c : Code} (d : Nat) {s2 : St} {M ob : Nat} {t : AD} (hx : get s.T d = .ptr ob 0) (hob : s.σ.objs[ob]? = some (.arr t.cells)) (hU : HasU s.σ t.arrs) (hM : M ≤ ob) (hge : ∀ q, q ∈ t.arrs → M ≤ q.1 ∧ q.1 ≠ ob) (hw : Weak σ0 M s.σ.toks.length s.L.length s s2)
  (k : AWpR ρ P σ0 N c Q ⟨(d, .ptr s2.σ.objs.length 0) :: s2.T, s2.L, { s2.σ with objs := s2.σ.objs ++ [.arr (ybP t.dat)] }⟩) : AWpR ρ P σ0 N c Q s := by
 rintro g0 w0 a w ⟨g, r⟩
 have r2 := hw.rel r
 have hpr := r.2.2.2.2 d
 rw [hx] at hpr
 generalize hpv : a.tmps.getD d undef = pv at hpr
 cases hpr with
 | ptr hio =>
  rename_i b
  obtain ⟨hnl, vs, rest, e, h6, h7, h8, h9⟩ := r.2.1.objs ob _ b hob hio
  have hA := r2.2.1.addSs (fun b => ∃ q, q ∈ t.arrs ∧ g.io[q.1]? = some b) (by
   rintro b ⟨q, hq, hb⟩
   exact r.2.1.freshOld hb (hge q hq).1)
  have r3 := r2.later (σ' := s2.σ) (L' := s2.L) hA.2 (fun _ _ h => h) hA.1 rfl rfl (fun _ _ => rfl) (Nat.le_refl _) rfl rfl rfl
  have hf0 := r.2.1.freshOld (no := M) (nt := s.σ.toks.length) (nl := s.L.length) hio hM
  have ap := r.2.1.apart
  have hf : Fresh { g.cut M s.σ.toks.length s.L.length with S := fun c o => (g.cut M s.σ.toks.length s.L.length).S c o ∨ ∃ q, q ∈ t.arrs ∧ g.io[q.1]? = some c } w b := by
   refine ⟨hf0.low, hf0.lt, hf0.K, fun o hS => ?_, hf0.own⟩
   rcases hS with hS | ⟨q, hq, hb⟩
   ·exact hf0.S o hS
   ·exact (hge q hq).2 (zU ap.1.1 hb hio)
  have hks : Keeps g.B g.S (fun c o => g.S c o ∨ ∃ q, q ∈ t.arrs ∧ g.io[q.1]? = some c) w w := ⟨fun _ _ h => .inl h, fun _ _ _ => rfl, fun _ _ => rfl⟩
  have hro : RObj { g.cut M s.σ.toks.length s.L.length with S := fun c o => (g.cut M s.σ.toks.length s.L.length).S c o ∨ ∃ q, q ∈ t.arrs ∧ g.io[q.1]? = some c } s2.σ.toks w b (.arr (ybP t.dat)) := by
   refine ⟨fun x hx => ?_, vs, rest, e, h6, by rw [h7, AD.cells_len]; rfl, h8, fun i x v hx hv => ?_⟩
   ·simp only [ybP, List.mem_cons, List.not_mem_nil, or_false] at hx
    rcases hx with rfl | rfl | rfl | rfl <;> rfl
   ·rw [AD.cells_eq] at h9
    simp only [ybP] at hx
    match i, hx with
    | 0, hx => simp only [List.getElem?_cons_zero, Option.some.injEq] at hx; subst hx; have := (h9 0 _ v rfl hv).pv_inv.mono hks; rw [AD.dat_kind]; exact .pv this
    | 1, hx => simp only [List.getElem?_cons_succ, List.getElem?_cons_zero, Option.some.injEq] at hx; subst hx; have := (h9 1 _ v rfl hv).pv_inv.mono hks; rw [AD.dat_num]; exact .pv this
    | 2, hx => simp only [List.getElem?_cons_succ, List.getElem?_cons_zero, Option.some.injEq] at hx; subst hx; have := (h9 2 _ v rfl hv).pv_inv.mono hks; rw [AD.dat_text]; exact .pv this
    | 3, hx =>
     simp only [List.getElem?_cons_succ, List.getElem?_cons_zero, Option.some.injEq] at hx; subst hx
     refine .pv (AD.reads (g := g) (tk := s.σ.toks) (fun b o h => .inl h) t v (fun q hq => ?_) (h9 3 _ v rfl hv))
     have h4 := hU q hq
     have hlt : q.1 < g.io.length := by rw [r.2.1.lio]; exact (List.getElem?_eq_some_iff.1 h4).1
     exact ⟨g.io[q.1], by simp, r.2.1.objs q.1 q.2 _ h4 (by simp), fun o => .inr ⟨q, hq, by simp⟩⟩
    | n + 4, hx => simp at hx
  have r4 := r3.addObj hf hro
  refine k g0 w0 a w ⟨_, r4.1, r4.2.1, r4.2.2.1, r4.2.2.2.1, fun t' => ?_⟩
  simp only [get]
  split
  ·subst_vars
   rw [hpv]
   refine .ptr ?_
   have hl := r2.2.1.lio
   show ((g.cut M s.σ.toks.length s.L.length).io ++ [b])[s2.σ.objs.length]? = some b
   rw [← hl]; simp
  ·exact r4.2.2.2.2 t'
end
end Go.Aw

namespace Go.Aw
open Go
section
variable {ρ : Option Nat} {P : Program} {σ0 : Store} {N : Nat} {s : St} {Q : Exit → St → Prop}
theorem Inv.freshOldL {g : Ghost} {σ : Store} {L : List (List AV)} {w : World} (h : Inv g σ L w) {i no nt nl b : Nat} (hi : g.lam[i]? = some b) (hno : nl ≤ i) : Fresh (g.cut no nt nl) w b := by
 have hown : b ∈ g.owned := by simp only [Ghost.owned, List.mem_append]; exact .inl (.inr (List.mem_of_getElem? hi))
 have hlow := h.low b hown
 have ap := h.apart
 refine ⟨hlow.1, hlow.2.1, hlow.2.2, fun o hS => (h.cells b o hS).2.2.2 (List.mem_of_getElem? hi), ?_⟩
 have hnd := h.nodup
 intro hm
 simp only [Ghost.owned, Ghost.cut, List.mem_append] at hm
 rcases hm with (hm | hm) | hm
 ·exact ap.2.1 b (List.mem_of_mem_take hm) (List.mem_of_getElem? hi)
 ·obtain ⟨q, hq, hqe⟩ := List.getElem_of_mem hm
  have hq2 : q < nl := by rw [List.length_take] at hq; omega
  have h1 : g.lam[q]? = some b := by
   rw [List.getElem_take] at hqe
   rw [← hqe]; simp
  have := zU ap.1.2 h1 hi
  omega
 ·obtain ⟨tb, htb, hte⟩ := List.mem_filterMap.1 hm
  cases tb with
  | none => cases hte
  | some tb =>
   simp only [Option.map_some, Option.some.injEq] at hte
   obtain ⟨kk, hkk, hke⟩ := List.getElem_of_mem (List.mem_of_mem_take htb)
   have := (ap.2.2 kk tb (by rw [← hke]; simp)).2
   rw [hte] at this
   exact this (List.mem_of_getElem? hi)
theorem Fresh.addIo {g : Ghost} {w : World} {b c : Nat} (h : Fresh g w b) (hne : b ≠ c) : Fresh { g with io := g.io ++ [c] } w b := by
 refine ⟨h.low, h.lt, h.K, h.S, fun hm => h.own ?_⟩
 simp only [Ghost.owned, List.mem_append, List.mem_singleton] at hm ⊢
 rcases hm with ((hm | hm) | hm) | hm
 ·exact .inl (.inl hm)
 ·exact absurd hm hne
 ·exact .inl (.inr hm)
 ·exact .inr hm
theorem yct {c : Code} (d1 d2 : Nat) {s2 : St} {M nl i j a b : Nat} {ks vs ks' vs' : List PV} (h1 : get s.T d1 = .lptr i 0) (h2 : get s.T d2 = .lptr j 0) (hij : i ≠ j) (hLi : s.L[i]? = some [.map a]) (hLj : s.L[j]? = some [.map b]) (hab : a ≠ b)
  (ha : s.σ.objs[a]? = some (.map ks vs)) (hb : s.σ.objs[b]? = some (.map ks' vs')) (hMa : M ≤ a) (hMb : M ≤ b) (hli : nl ≤ i) (hlj : nl ≤ j) (hd : d1 ≠ d2) (hw : Weak σ0 M s.σ.toks.length nl s s2)
  (k : AWpR ρ P σ0 N c Q ⟨(d1, .ptr (s2.σ.objs.length + 2) 0) :: (d2, .ptr (s2.σ.objs.length + 3) 0) :: s2.T, s2.L, { s2.σ with objs := s2.σ.objs ++ [.map ks vs, .map ks' vs', .box [.map s2.σ.objs.length], .box [.map (s2.σ.objs.length + 1)]] }⟩) : AWpR ρ P σ0 N c Q s := by
 rintro g0 w0 ac w ⟨g, r⟩
 have r2 := hw.rel r
 have hl2 := r2.2.1.lio
 have ap := r.2.1.apart
 have hp1 := r.2.2.2.2 d1
 rw [h1] at hp1
 generalize hv1 : ac.tmps.getD d1 undef = v1 at hp1
 have hp2 := r.2.2.2.2 d2
 rw [h2] at hp2
 generalize hv2 : ac.tmps.getD d2 undef = v2 at hp2
 cases hp1 with
 | lptr hi =>
  rename_i bi
  cases hp2 with
  | lptr hj =>
   rename_i bj
   obtain ⟨ui, ei, hi1, hi2, hi3, hi4⟩ := r.2.1.priv i _ bi hLi hi
   obtain ⟨uj, ej, hj1, hj2, hj3, hj4⟩ := r.2.1.priv j _ bj hLj hj
   match ui, hi2 with
   | [xi], hlen1 =>
    match uj, hj2 with
    | [xj], hlen2 =>
     have hxi := hi4 0 (.map a) xi rfl rfl
     have hxj := hj4 0 (.map b) xj rfl rfl
     cases hxi with
     | map hia =>
      rename_i ba
      cases hxj with
      | map hib =>
       rename_i bb
       have hoa := r.2.1.objs a _ ba ha hia
       have hob := r.2.1.objs b _ bb hb hib
       have fa := r.2.1.freshOld (no := M) (nt := s.σ.toks.length) (nl := nl) hia hMa
       have fb := r.2.1.freshOld (no := M) (nt := s.σ.toks.length) (nl := nl) hib hMb
       have fi := r.2.1.freshOldL (no := M) (nt := s.σ.toks.length) (nl := nl) hi hli
       have fj := r.2.1.freshOldL (no := M) (nt := s.σ.toks.length) (nl := nl) hj hlj
       have nab : bb ≠ ba := fun e => hab (zU ap.1.1 hia (e ▸ hib))
       have nia : bi ≠ ba := fun e => ap.2.1 ba (List.mem_of_getElem? hia) (e ▸ List.mem_of_getElem? hi)
       have nib : bi ≠ bb := fun e => ap.2.1 bb (List.mem_of_getElem? hib) (e ▸ List.mem_of_getElem? hi)
       have nja : bj ≠ ba := fun e => ap.2.1 ba (List.mem_of_getElem? hia) (e ▸ List.mem_of_getElem? hj)
       have njb : bj ≠ bb := fun e => ap.2.1 bb (List.mem_of_getElem? hib) (e ▸ List.mem_of_getElem? hj)
       have nji : bj ≠ bi := fun e => hij (zU ap.1.2 hi (e ▸ hj))
       have r3 := r2.addObj fa (ob := .map ks vs) hoa
       have r4 := r3.addObj (fb.addIo nab) (ob := .map ks' vs') hob
       have g4a : (((g.cut M s.σ.toks.length nl).io ++ [ba]) ++ [bb])[s2.σ.objs.length]? = some ba := by rw [← hl2]; simp
       have g4b : (((g.cut M s.σ.toks.length nl).io ++ [ba]) ++ [bb])[s2.σ.objs.length + 1]? = some bb := by rw [← hl2]; simp
       have r5 := r4.addObj ((fi.addIo nia).addIo nib) (ob := .box [.map s2.σ.objs.length]) ⟨fun x hx => by rw [List.mem_singleton] at hx; subst hx; rfl, [.map (some ba)], ei, hi1, rfl, hi3, fun q x v hx hv => by
        cases q with
        | zero => simp at hx hv; subst hx; subst hv; exact .map g4a
        | succ q => simp at hx⟩
       have g5b : ((((g.cut M s.σ.toks.length nl).io ++ [ba]) ++ [bb]) ++ [bi])[s2.σ.objs.length + 1]? = some bb := by rw [List.getElem?_append_left (List.getElem?_eq_some_iff.1 g4b).1]; exact g4b
       have r6 := r5.addObj (((fj.addIo nja).addIo njb).addIo nji) (ob := .box [.map (s2.σ.objs.length + 1)]) ⟨fun x hx => by rw [List.mem_singleton] at hx; subst hx; rfl, [.map (some bb)], ej, hj1, rfl, hj3, fun q x v hx hv => by
        cases q with
        | zero => simp at hx hv; subst hx; subst hv; exact .map g5b
        | succ q => simp at hx⟩
       have e6 : ((((s2.σ.objs ++ [AObj.map ks vs]) ++ [AObj.map ks' vs']) ++ [AObj.box [.map s2.σ.objs.length]]) ++ [AObj.box [.map (s2.σ.objs.length + 1)]]) = s2.σ.objs ++ [.map ks vs, .map ks' vs', .box [.map s2.σ.objs.length], .box [.map (s2.σ.objs.length + 1)]] := by simp
       simp only [e6] at r6
       refine k g0 w0 ac w ⟨_, r6.1, r6.2.1, r6.2.2.1, r6.2.2.2.1, fun t => ?_⟩
       simp only [get]
       split
       ·subst_vars
        rw [hv1]
        refine .ptr ?_
        show (((((g.cut M s.σ.toks.length nl).io ++ [ba]) ++ [bb]) ++ [bi]) ++ [bj])[s2.σ.objs.length + 2]? = some bi
        rw [← hl2]; simp
       ·split
        ·subst_vars
         rw [hv2]
         refine .ptr ?_
         show (((((g.cut M s.σ.toks.length nl).io ++ [ba]) ++ [bb]) ++ [bi]) ++ [bj])[s2.σ.objs.length + 3]? = some bj
         rw [← hl2]; simp
        ·exact r6.2.2.2.2 t
end
end Go.Aw

namespace Go.Aw
open Go
/-- A copy is put at a place: the objects, and the tree. -/
def yad (a : D) (ob : Nat) (st : List AObj × AD) (p : List Int) : List AObj × AD :=
 match (st.1 ++ lobjs st.1.length a)[(AD.loc (ob, 0) st.2 p).1]? with
 | some (.arr cells) => ((st.1 ++ lobjs st.1.length a).set (AD.loc (ob, 0) st.2 p).1 (.arr (overlay cells (AD.loc (ob, 0) st.2 p).2 (lay st.1.length a).cells)), st.2.graft p (lay st.1.length a))
 | _ => (st.1 ++ lobjs st.1.length a, st.2.graft p (lay st.1.length a))
structure GOk (gl : List (Nat × PV)) (tk : List Tok) (M ob : Nat) (st : List AObj × AD) : Prop where
 hU : HasU ⟨gl, st.1, tk⟩ (Ya ob st.2)
 nd : ((Ya ob st.2).map (·.1)).Nodup
 ge : ∀ i, i ∈ (Ya ob st.2).map (·.1) → M ≤ i
theorem GOk.step {gl : List (Nat × PV)} {tk : List Tok} {M ob : Nat} {st : List AObj × AD} (h : GOk gl tk M ob st) (a : D) {p : List Int} {x : AD} (hx : st.2.sub p = some x) :
  GOk gl tk M ob (yad a ob st p) ∧ (yad a ob st p).2 = st.2.graft p (lay st.1.length a) ∧ (yad a ob st p).1.take M = st.1.take M ∧ st.1.length ≤ (yad a ob st p).1.length ∧
   ∃ cells, (st.1 ++ lobjs st.1.length a)[(AD.loc (ob, 0) st.2 p).1]? = some (.arr cells) ∧ (AD.loc (ob, 0) st.2 p).2 + 4 ≤ cells.length ∧ (yad a ob st p).1 = (st.1 ++ lobjs st.1.length a).set (AD.loc (ob, 0) st.2 p).1 (.arr (overlay cells (AD.loc (ob, 0) st.2 p).2 (lay st.1.length a).cells)) := by
 have hua := ycc (σ := ⟨gl, st.1 ++ lobjs st.1.length a, tk⟩) (A := st.1) (C := []) (d := a) (by simp)
 have hr : HasU ⟨gl, st.1 ++ lobjs st.1.length a, tk⟩ (Ya ob st.2) := h.hU.app _ _
 have hlt : ∀ i, i ∈ (Ya ob st.2).map (·.1) → i < st.1.length := fun i hi => by
  obtain ⟨q, hq, rfl⟩ := List.mem_map.1 hi
  exact h.hU.lt hq
 have hku : ∀ i, i ∈ (lay st.1.length a).arrs.map (·.1) → st.1.length ≤ i := fun i hi => by
  rw [YA, List.mem_range'_1] at hi; exact hi.1
 have hob : M ≤ ob := h.ge ob (by simp [Ya])
 have hMl : M ≤ st.1.length := by have := hlt ob (by simp [Ya]); omega
 rw [z7] at hr hlt
 have hnd := h.nd
 rw [z7] at hnd
 obtain ⟨cells, k1, k2, k3, k4, k5, k6⟩ := AD.graftW (lay st.1.length a) (yno _ _) hua p st.2 x ob [] [] hr hnd (fun k hk hk2 => by have := hlt k hk; have := hku k hk2; omega) hx
 simp only [List.length_nil] at k1 k2 k3 k6
 have hs : yad a ob st p = ((st.1 ++ lobjs st.1.length a).set (AD.loc (ob, 0) st.2 p).1 (.arr (overlay cells (AD.loc (ob, 0) st.2 p).2 (lay st.1.length a).cells)), st.2.graft p (lay st.1.length a)) := by
  unfold yad
  rw [k1]
 have hlM : M ≤ (AD.loc (ob, 0) st.2 p).1 := h.ge _ (by rw [z7]; exact k6)
 refine ⟨⟨?_, ?_, ?_⟩, by rw [hs], ?_, ?_, cells, k1, k2, by rw [hs]⟩
 ·rw [hs, z7]; exact k3
 ·rw [hs, z7]; exact k4
 ·intro i hi
  rw [hs] at hi
  rcases List.mem_cons.1 hi with e | hi
  ·rw [e]; exact hob
  ·rcases k5 i hi with hi | hi
   ·exact h.ge i (List.mem_cons_of_mem _ hi)
   ·have := hku i hi; omega
 ·rw [hs, List.take_set_of_le hlM, List.take_append_of_le_length hMl]
 ·rw [hs]; simp
def gK (a : D) (ob : Nat) (ps : List (List Int)) (st : List AObj × AD) (k : Nat) : List AObj × AD := (ps.take k).foldl (yad a ob) st
theorem yj5 {a : D} {ob : Nat} {ps : List (List Int)} {st : List AObj × AD} {k : Nat} {p : List Int} (h : ps[k]? = some p) : gK a ob ps st (k + 1) = yad a ob (gK a ob ps st k) p := by
 unfold gK
 rw [yA h, List.foldl_append]; rfl
/-- No place is below another one. -/
def yiM (ps : List (List Int)) : Prop := ∀ p, p ∈ ps → ∀ q, q ∈ ps → ∀ i r, p ≠ q ++ i :: r
theorem ysr {gl : List (Nat × PV)} {tk : List Tok} {M ob : Nat} {st : List AObj × AD} (h : GOk gl tk M ob st) (a : D) {ps : List (List Int)} (hs : ∀ p, p ∈ ps → ∃ x, st.2.sub p = some x) (ha : yiM ps) (h0 : ∀ p, p ∈ ps → ∀ j, j ∈ p → 0 ≤ j) : ∀ k, k ≤ ps.length →
  GOk gl tk M ob (gK a ob ps st k) ∧ (∀ p, p ∈ ps → ∃ x, (gK a ob ps st k).2.sub p = some x) ∧ (gK a ob ps st k).2.dat = (ps.take k).foldl (fun d p => d.graft p a) st.2.dat ∧ (gK a ob ps st k).1.take M = st.1.take M ∧ st.1.length ≤ (gK a ob ps st k).1.length := by
 intro k
 induction k with
 | zero => intro _; exact ⟨h, hs, rfl, rfl, Nat.le_refl _⟩
 | succ k ih =>
  intro hk
  obtain ⟨i1, i2, i3, i4, i5⟩ := ih (by omega)
  have hp : ps[k]? = some (ps[k]'(by omega)) := by simp
  have hpm := List.mem_of_getElem? hp
  obtain ⟨x, hx⟩ := i2 _ hpm
  obtain ⟨j1, j2, j3, j4, _⟩ := i1.step a hx
  rw [yj5 hp]
  refine ⟨j1, fun q hq => ?_, ?_, j3.trans i4, Nat.le_trans i5 j4⟩
  ·rw [j2]
   obtain ⟨y, hy⟩ := i2 q hq
   exact AD.graft_sub _ (h0 _ hpm) hy (ha q hq _ hpm)
  ·rw [j2, AD.graft_dat, yce, i3, yA hp, List.foldl_append]; rfl
section
variable {P : Program} {ty : TyT} {σ0 : Store} {N : Nat} {s : St} {o : Oper} {ops : Array Oper} {os : List Oper} {K : St → Prop}
/-- A copy is written at a place. -/
theorem yhs {a : D} {gl : List (Nat × PV)} {tk : List Tok} {M ob : Nat} {st : List AObj × AD} {p : List Int} {x : AD} (hok : GOk gl tk M ob st) (hx : st.2.sub p = some x) (hs : s.σ = ⟨gl, st.1 ++ lobjs st.1.length a, tk⟩)
  (hty : TyOk P ty) {t : TypeId} {pp y : Operand} {ti : TyI} (hg : o.guard = none) (ho : o.op = .store t pp y) (hdst : o.dst = none) (hti : ty t = some ti) (h1 : ti.size = 4)
  (hp : ev s pp = .ptr (AD.loc (ob, 0) st.2 p).1 (AD.loc (ob, 0) st.2 p).2) (hy : ev s y = (lay st.1.length a).av) (k : yz P σ0 N ops os K ⟨s.T, s.L, ⟨gl, (yad a ob st p).1, tk⟩⟩) : yz P σ0 N ops (o :: os) K s := by
 obtain ⟨_, _, _, _, cells, k1, k2, k3⟩ := hok.step a hx
 refine YH hg (yaA hty (i := (AD.loc (ob, 0) st.2 p).1) (off := (AD.loc (ob, 0) st.2 p).2) (cs := cells) (ds := (lay st.1.length a).cells) ho hp hti (by rw [hs]; exact k1) (by rw [hy]; exact AD.av_cells _) (zH _ _) (by rw [h1, AD.cells_len]) (by rw [AD.cells_len]; exact k2) (by rw [hdst]; rfl) ?_)
 rw [hdst]
 simp only [St.put]
 rw [hs]
 simp only
 rw [← k3]
 exact k
end
/-- What a substitution leaves. -/
def sbPl (e : D) (x : ByteArray) : FSt := fnd x e [] [] ([], [])
def sbRn (e : D) (x : ByteArray) (a : D) : D × List ByteArray := zO (sbTo (sfree a [] []) (sbPl e x).2) e (yU [e, a] [])
def ycF (e : D) (x : ByteArray) (a : D) : D := (sbPl e x).1.foldl (fun d p => d.graft p a) (sbRn e x a).1
/-- The places are names. -/
theorem ykU (x : ByteArray) : ∀ (d : D) (p : List Int) (sc : List (ByteArray × ByteArray)) (s : FSt) (q : List Int), q ∈ (fnd x d p sc s).1 → q ∈ s.1 ∨ ∃ r y, q = p ++ r ∧ d.sub r = some y ∧ yb y = 2 := by
 intro d
 induction d using D.indS with
 | h d ih =>
  intro p sc s q hq
  have up : ∀ (c : Aw.Sub × D), c ∈ subs d → (∃ r y, q = (p ++ c.1.p) ++ r ∧ c.2.sub r = some y ∧ yb y = 2) → ∃ r y, q = p ++ r ∧ d.sub r = some y ∧ yb y = 2 := by
   rintro c hc ⟨r, y, h1, h2, h3⟩
   exact ⟨c.1.p ++ r, y, by rw [h1, List.append_assoc], by rw [D.sub_append, D.sub_subs hc]; exact h2, h3⟩
  by_cases h2 : yb d = 2
  ·rw [yiy h2] at hq
   split at hq
   ·simp only [List.mem_append, List.mem_singleton] at hq
    rcases hq with hq | hq
    ·exact .inl hq
    ·exact .inr ⟨[], d, by rw [hq]; simp, rfl, h2⟩
   ·exact .inl hq
  by_cases h5 : yb d = 5 ∨ yb d = 9
  ·rw [yiR h5] at hq
   have hm : subL d 2 (d2 d.kids) ∈ subs d := by rw [y4 h5]; simp
   rcases ih _ hm _ _ _ _ hq with h | h
   ·exact .inl h
   ·exact .inr (up _ hm h)
  by_cases h6 : yb d = 6
  ·rw [ykq h6] at hq
   have hm : (⟨[2], []⟩, d2 d.kids) ∈ subs d := by rw [yQ h6]; simp
   have hm3 : subL d 3 (d.kids.getD 3 dnone) ∈ subs d := by rw [yQ h6]; simp
   rcases ih _ hm3 _ _ _ _ hq with h | h
   ·rcases ih _ hm _ _ _ _ h with h | h
    ·exact .inl h
    ·exact .inr (up _ hm h)
   ·exact .inr (up _ hm3 h)
  by_cases h7 : yb d = 7
  ·rw [yj1 h7] at hq
   have hm : subL d 2 (d2 d.kids) ∈ subs d := by rw [y9 h7]; simp
   rcases ih _ hm _ _ _ _ hq with h | h
   ·have key : ∀ (inn : List (ByteArray × ByteArray)) (k : Nat), k ≤ (d1 d.kids).kids.length → q ∈ (fndD x d p inn k s).1 → q ∈ s.1 ∨ ∃ r y, q = p ++ r ∧ d.sub r = some y ∧ yb y = 2 := by
     intro inn k
     induction k with
     | zero => intro _ h; exact .inl h
     | succ k ihk =>
      intro hk h
      have hx : (d1 d.kids).kids[k]? = some ((d1 d.kids).kids[k]'(by omega)) := by simp
      rw [ygR hx] at h
      have hmk : subR d k ((d1 d.kids).kids[k]'(by omega)) ∈ subs d := by rw [y9 h7]; exact List.mem_append_left _ (List.mem_of_getElem? (by rw [zB, hx]; rfl))
      rcases ih _ hmk _ _ _ _ h with h | h
      ·exact ihk (by omega) h
      ·exact .inr (up _ hmk h)
    exact key _ _ (Nat.le_refl _) h
   ·exact .inr (up _ hm h)
  ·have hr : yb d ≠ 2 ∧ yb d ≠ 5 ∧ yb d ≠ 9 ∧ yb d ≠ 6 ∧ yb d ≠ 7 := by omega
   rw [← yeV hr] at hq
   have key : ∀ k, k ≤ (subs d).length → q ∈ (fndS x d p sc k s).1 → q ∈ s.1 ∨ ∃ r y, q = p ++ r ∧ d.sub r = some y ∧ yb y = 2 := by
    intro k
    induction k with
    | zero => intro _ h; exact .inl h
    | succ k ihk =>
     intro hk h
     have hx : (subs d)[k]? = some ((subs d)[k]'(by omega)) := by simp
     have hmk := List.mem_of_getElem? hx
     rw [ydG hx] at h
     rcases ih _ hmk _ _ _ _ h with h | h
     ·exact ihk (by omega) h
     ·exact .inr (up _ hmk h)
   exact key _ (Nat.le_refl _) hq
theorem yfj : ∀ (p : List Int) (d y : D), formed d = true → d.sub p = some y → formed y = true
 | [], d, y, h, hy => by cases hy; exact h
 | i :: p, d, y, h, hy => by
  simp only [D.sub] at hy
  split at hy
  ·obtain ⟨c, hc, hy⟩ := Option.bind_eq_some_iff.1 hy
   exact yfj p c y (yO h (List.mem_of_getElem? hc)) hy
  ·cases hy
theorem ylS {y : D} (h : yb y = 2) : y.kind = 2 := by
 unfold yb at h
 by_cases h1 : (y.kind == 1) = true
 ·rw [if_pos h1] at h; cases h
 ·rw [if_neg h1] at h
  by_cases h2 : (y.kind == 2) = true
  ·simpa using h2
  ·rw [if_neg h2] at h
   exfalso
   split at h
   ·cases h
   ·split at h
    ·split at h <;> cases h
    ·split at h
     ·rename_i hf
      rw [h] at hf
      simp [fmOk] at hf
     ·cases h
theorem ZV {x : ByteArray} {e : D} {p : List Int} (h : p ∈ (sbPl e x).1) : ∃ y, e.sub p = some y ∧ yb y = 2 := by
 rcases ykU x e [] [] ([], []) p h with h | ⟨r, y, h1, h2, h3⟩
 ·simp at h
 ·exact ⟨y, by rw [h1]; exact h2, h3⟩
theorem yh3 {x : ByteArray} {e : D} (hf : formed e = true) : yiM (sbPl e x).1 := by
 intro p hp q hq i r he
 obtain ⟨y, hy, _⟩ := ZV hp
 obtain ⟨z, hz, hz2⟩ := ZV hq
 have hk := (ycA (yfj q e z hf hz) (ylS hz2)).2.1
 rw [he, D.sub_append, hz] at hy
 simp only [Option.bind_some, D.sub, hk] at hy
 split at hy
 ·simp at hy
 ·cases hy
end Go.Aw

namespace Go.Aw
open Go
mutual
def peq : PV → PV → Bool
 | .slice xs, .slice ys => peqs xs ys
 | .agg xs, .agg ys => peqs xs ys
 | .ptr xs, .ptr ys => peqs xs ys
 | .int k n, .int j m => zM (.int k n) (.int j m)
 | .bool a, .bool b => a == b
 | .str a, .str b => decide (a = b)
 | .nils, .nils => true
 | .nilp, .nilp => true
 | .nilif, .nilif => true
 | .nilmap, .nilmap => true
 | .nilfn, .nilfn => true
 | _, _ => false
def peqs : List PV → List PV → Bool
 | [], [] => true
 | x :: xs, y :: ys => peq x y && peqs xs ys
 | _, _ => false
end
mutual
theorem ymJ : ∀ {a b : PV}, peq a b = true → a = b
 | .slice xs, b, h => by cases b <;> simp [peq] at h; rw [yd6 h]
 | .agg xs, b, h => by cases b <;> simp [peq] at h; rw [yd6 h]
 | .ptr xs, b, h => by cases b <;> simp [peq] at h; rw [yd6 h]
 | .int k n, b, h => by cases b <;> simp [peq] at h; exact ybB h
 | .bool a, b, h => by cases b <;> simp [peq] at h; rw [h]
 | .str a, b, h => by cases b <;> simp [peq] at h; rw [h]
 | .nils, b, h => by cases b <;> simp [peq] at h; rfl
 | .nilp, b, h => by cases b <;> simp [peq] at h; rfl
 | .nilif, b, h => by cases b <;> simp [peq] at h; rfl
 | .nilmap, b, h => by cases b <;> simp [peq] at h; rfl
 | .nilfn, b, h => by cases b <;> simp [peq] at h; rfl
 | .iface t p, b, h => by cases b <;> simp [peq] at h
 | .map ks vs, b, h => by cases b <;> simp [peq] at h
 | .tab k zs, b, h => by cases b <;> simp [peq] at h
theorem yd6 : ∀ {a b : List PV}, peqs a b = true → a = b
 | [], [], _ => rfl
 | x :: xs, y :: ys, h => by
  simp only [peqs, Bool.and_eq_true] at h
  rw [ymJ h.1, yd6 h.2]
 | [], _ :: _, h => by simp [peqs] at h
 | _ :: _, [], h => by simp [peqs] at h
end
/-- Does the run give this, and leave nothing? -/
def gives (o : Option (AV × Store)) (q : PV) : Bool :=
 match o with
 | some (r, σ) => match r, σ.objs, σ.toks with
  | .pv p, [], [] => peq p q
  | _, _, _ => false
 | none => false

theorem YS {C : Cfg} {G : List (Nat × PV)} (H : CfgOk C G) {n : Nat} {f : FuncId} {args : List AV} {q : PV} (h : gives (evF C n f args ⟨G, [], []⟩) q = true) : zm C.P ⟨G, [], []⟩ f args (.pv q) := by
 cases he : evF C n f args ⟨G, [], []⟩ with
 | none => rw [he] at h; cases h
 | some p =>
  obtain ⟨r, σ'⟩ := p
  rw [he] at h
  have hg := yiC he
  have hc := (yiz H n).1 f args ⟨G, [], []⟩ r σ' rfl he
  obtain ⟨gl, objs, toks⟩ := σ'
  simp only [gives] at h
  split at h
  ·simp only at hg
   subst hg
   rw [ymJ h] at hc
   exact hc
  ·cases h
end Go.Aw

namespace Go.Aw
open Go
/-! ### a datum cut: as far as there is room -/
def cutX (s : ByteArray) : ByteArray := s.extract 0 (if (42 : Int) < s.size then (42 : Int) else s.size).toNat
def cutS (f : D → Nat → D × Nat) (st : List D × Nat) (k : D) : List D × Nat := if st.2 = 0 then st else (st.1 ++ [(f k st.2).1], (f k st.2).2)
def cutD : Nat → D → Nat → D × Nat
 | 0, d, lf => (.mk d.kind d.num (cutX d.text) [], lf - 1)
 | n + 1, d, lf =>
  let r := if n = 0 then ([], lf - 1) else d.kids.foldl (cutS (cutD n)) ([], lf - 1)
  (.mk d.kind d.num (cutX d.text) r.1, r.2)
theorem ymP (f : D → Nat → D × Nat) (l : List D) (st : List D × Nat) (h : st.2 = 0) : l.foldl (cutS f) st = st := by
 induction l with
 | nil => rfl
 | cons x l ih => rw [List.foldl_cons]; unfold cutS; rw [if_pos h]; exact ih
/-- The kids that are cut already: as many as are there. -/
def cutI (n : Nat) (d : D) (lf : Nat) (i : List D × Nat) : Prop := i.1.length ≤ d.kids.length ∧ (if n = 0 then i = ([], lf - 1) else i = (d.kids.take i.1.length).foldl (cutS (cutD n)) ([], lf - 1)) ∧ D.sizes i.1 + i.2 + 1 ≤ lf
theorem ymQ {n : Nat} {d : D} {lf : Nat} (h : 0 < lf) : cutI n d lf ([], lf - 1) := by
 refine ⟨Nat.zero_le _, ?_, by simp [D.sizes]; omega⟩
 split <;> rfl
theorem ymR {n : Nat} {d : D} {lf : Nat} {i : List D × Nat} {x : D} (h : cutI n d lf i) (hn : n ≠ 0) (h2 : 0 < i.2) (hx : d.kids[i.1.length]? = some x) (hs : (cutD n x i.2).1.size + (cutD n x i.2).2 ≤ i.2) :
  cutI n d lf (i.1 ++ [(cutD n x i.2).1], (cutD n x i.2).2) := by
 obtain ⟨h1, h3, h4⟩ := h
 rw [if_neg hn] at h3
 have hlt := (List.getElem?_eq_some_iff.1 hx).1
 refine ⟨by simp; omega, ?_, by simp [ZR, D.sizes]; omega⟩
 rw [if_neg hn]
 simp only [List.length_append, List.length_cons, List.length_nil, Nat.zero_add]
 rw [yA hx, List.foldl_append, ← h3]
 simp only [List.foldl_cons, List.foldl_nil]
 unfold cutS
 rw [if_neg (by omega)]
theorem yeW {n : Nat} {d : D} {lf : Nat} {i : List D × Nat} (h : cutI n d lf i) (he : i.1.length = d.kids.length ∨ n = 0 ∨ i.2 = 0) : cutD (n + 1) d lf = (.mk d.kind d.num (cutX d.text) i.1, i.2) := by
 obtain ⟨h1, h3, h4⟩ := h
 unfold cutD
 by_cases hn : n = 0
 ·rw [if_pos hn] at h3 ⊢
  rw [h3]
 ·rw [if_neg hn] at h3 ⊢
  have : d.kids.foldl (cutS (cutD n)) ([], lf - 1) = i := by
   rcases he with he | he | he
   ·rw [he, List.take_length] at h3; exact h3.symm
   ·exact absurd he hn
   ·conv => lhs; rw [← List.take_append_drop i.1.length d.kids, List.foldl_append, ← h3]
    exact ymP _ _ _ he
  simp only [this]
theorem yds : ∀ (n : Nat) (d : D) (lf : Nat), 0 < lf → (cutD n d lf).1.size + (cutD n d lf).2 ≤ lf
 | 0, d, lf, h => by simp [cutD, D.size, D.sizes]; omega
 | n + 1, d, lf, h => by
  unfold cutD
  by_cases hn : n = 0
  ·simp [hn, D.size, D.sizes]; omega
  ·simp only [hn, if_false]
   have key : ∀ (l : List D) (st : List D × Nat), D.sizes st.1 + st.2 + 1 ≤ lf → D.sizes (l.foldl (cutS (cutD n)) st).1 + (l.foldl (cutS (cutD n)) st).2 + 1 ≤ lf := by
    intro l
    induction l with
    | nil => intro st h; exact h
    | cons x l ih =>
     intro st hst
     rw [List.foldl_cons]
     refine ih _ ?_
     unfold cutS
     split
     ·exact hst
     ·have := yds n x st.2 (by omega)
      simp [ZR, D.sizes]; omega
   have := key d.kids ([], lf - 1) (by simp [D.sizes]; omega)
   simp only [D.size]; omega
theorem ymA {P : Program} {f : FuncId} {args : List AV} {σ : Store} {oc : Nat} {n : Nat} {d : D} {lf : Nat} {k m : Int} {tx : ByteArray}
  (h : ACalls P f args σ fun r σ' => ∃ (out : List D) (lv : Nat), WVt σ.objs.length σ.toks.length 0 r (.pv (enc (.mk k m tx out))) ∧ σ'.cut σ.objs.length σ.toks.length = setC σ oc lv ∧ (D.mk k m tx out, lv) = cutD n d lf) : ACalls P f args σ fun r σ' => ∃ y, y = cutD n d lf ∧ r = .pv (enc y.1) ∧ σ' = setC σ oc (y.2 : Int) := by
 refine h.less ?_
 rintro r σ' ⟨out, lv, h1, h2, h3⟩
 refine ⟨_, _, _, h1, Nat.le_refl _, Nat.le_refl _, fun ob hob => ?_, ⟨_, h3, rfl, h2⟩⟩
 have h4 : σ'.objs.take σ.objs.length = (setC σ oc lv).objs := congrArg Store.objs h2
 rw [h4] at hob
 exact yaU hob _ _ _
theorem yr (s : ByteArray) : reserved s = zr s := by
 rcases yer s with ⟨e, h⟩ | ⟨e, h⟩ | ⟨e, h⟩ | ⟨e, h⟩ | ⟨e, h⟩ | ⟨e, h⟩ | ⟨e, h⟩ | ⟨hn, h⟩
 ·subst e; decide
 ·subst e; decide
 ·subst e; decide
 ·subst e; decide
 ·subst e; decide
 ·subst e; decide
 ·subst e; decide
 ·rw [h]
  have h0 := yho s
  have : (Yh.any fun w => decide (w = s)) = false := by
   rw [List.any_eq_false]
   intro w hw
   rw [List.find?_eq_none] at hn
   have hm : ∃ n, (w, n) ∈ ybp := by
    simp only [Yh, List.mem_cons, List.not_mem_nil, or_false] at hw
    rcases hw with rfl | rfl | rfl | rfl | rfl | rfl | rfl
    ·exact ⟨3, .head _⟩
    ·exact ⟨4, .tail _ (.head _)⟩
    ·exact ⟨5, .tail _ (.tail _ (.head _))⟩
    ·exact ⟨6, .tail _ (.tail _ (.tail _ (.head _)))⟩
    ·exact ⟨7, .tail _ (.tail _ (.tail _ (.tail _ (.head _))))⟩
    ·exact ⟨8, .tail _ (.tail _ (.tail _ (.tail _ (.tail _ (.head _)))))⟩
    ·exact ⟨9, .tail _ (.tail _ (.tail _ (.tail _ (.tail _ (.tail _ (.head _))))))⟩
   obtain ⟨n, hm⟩ := hm
   exact hn _ hm
  rw [this] at h0
  simpa using h0
theorem ydD {d : D} (hf : formed d = true) : (d.kind == 2 && ya3 d.text) = nmS d := by
 unfold nmS ya3
 by_cases hk : d.kind = 2
 ·have h := (ycA hf hk).2.2
  rw [ZE, h, yr]; simp
 ·have : (d.kind == 2) = false := by simpa using hk
  rw [this]; rfl
end Go.Aw

namespace Go.Aw
open Go
/-- A binding: a name, the path of what binds it, and which of its names it is. -/
structure Bd where
 nm : ByteArray
 p : List Int
 i : Int
def zS (b : Bd) : PV := .agg [.str b.nm, .slice (b.p.map (.int .i64)), .int .i64 b.i]
@[go_sem] theorem yje (b : Bd) : (zS b).cells = [.str b.nm, .slice (b.p.map (.int .i64)), .int .i64 b.i] := rfl
@[go_sem] theorem ysQ (l : List Bd) : yW 3 (l.map zS) = true := by simp [yW, yje]
@[go_sem] theorem ys1 (b : Bd) : (zS b).nrm = zS b := rfl
structure Vr where
 nm : ByteArray
 p : List Int
 env : List Bd
def ZQ (v : Vr) : PV := .agg [.str v.nm, .slice (v.p.map (.int .i64)), .slice (v.env.map zS)]
@[go_sem] theorem yjL (v : Vr) : (ZQ v).cells = [.str v.nm, .slice (v.p.map (.int .i64)), .slice (v.env.map zS)] := rfl
@[go_sem] theorem ysO (l : List Vr) : yW 3 (l.map ZQ) = true := by simp [yW, yjL]
@[go_sem] theorem ys0 (v : Vr) : (ZQ v).nrm = ZQ v := rfl
/-- New bindings, in order. -/
def bdW (p : List Int) (n : Int) (ns : List ByteArray) : List Bd := mapI (fun i x => ⟨x, p, n + (i : Int)⟩) ns
def bdS (p : List Int) (ns : List (ByteArray × Int)) : List Bd := ns.reverse.map fun x => ⟨x.1, p, x.2⟩
theorem ya6 (p : List Int) (l : List ByteArray) (n : Int) : bdS p (numb l n).reverse = bdW p n l := by
 unfold bdS bdW numb
 rw [List.reverse_reverse]
 apply List.ext_getElem?
 intro i
 rw [List.getElem?_map, zB, zB]
 cases l[i]? <;> rfl
theorem yqi (p : List Int) (a b : List (ByteArray × Int)) : bdS p (a ++ b) = bdS p b ++ bdS p a := by unfold bdS; rw [List.reverse_append, List.map_append]
theorem yoe {p : List Int} {n : Int} {l : List ByteArray} {k : Nat} {x : ByteArray} (h : l[k]? = some x) : (bdW p n l).take (k + 1) = (bdW p n l).take k ++ [⟨x, p, n + (k : Int)⟩] := ymn h
theorem ygh (p : List Int) (n : Int) (l : List ByteArray) : (bdW p n l).length = l.length := zt _ _
theorem yrB (p : List Int) (ns : List (ByteArray × Int)) : (bdS p ns).map Bd.nm = (ns.map (·.1)).reverse := by
 unfold bdS; rw [List.map_map, ← List.map_reverse]; rfl
/-- What is bound around the parts of an expression. -/
def scps (d : D) (p : List Int) (env : List Bd) : List (List Bd) := (subs d).map fun q => env ++ bdS p q.1.ns
/-- The variables in an expression, in preorder. -/
def rvars : D → List Int → List Bd → List Vr :=
 scata (fun d rs p env => if (yb d == 2) = true then [⟨d.text, p, env⟩] else rs.flatMap fun q => q.2 (p ++ q.1.p) (env ++ bdS p q.1.ns))
theorem yaY (d : D) (p : List Int) (env : List Bd) : rvars d p env = if (yb d == 2) = true then [⟨d.text, p, env⟩] else (subs d).flatMap fun q => rvars q.2 (p ++ q.1.p) (env ++ bdS p q.1.ns) := by
 show scata (β := List Int → List Bd → List Vr) _ d p env = _
 rw [Y5, List.flatMap_map]; rfl
theorem ygI : ∀ (d : D) (p : List Int) (env : List Bd), (rvars d p env).length ≤ d.size := by
 intro d
 induction d using D.indS with
 | h d ih =>
  intro p env
  rw [yaY]
  split
  ·have := D.size_pos d; simp only [List.length_cons, List.length_nil]; omega
  ·have hb := yao d
   have : ∀ (r : List (Sub × D)), (∀ q, q ∈ r → ∀ p env, (rvars q.2 p env).length ≤ q.2.size) → (r.flatMap fun q => rvars q.2 (p ++ q.1.p) (env ++ bdS p q.1.ns)).length ≤ (r.map fun q => q.2.size).sum := by
    intro r
    induction r with
    | nil => intro _; simp
    | cons q r ihr =>
     intro h
     have h1 := h q (by simp) (p ++ q.1.p) (env ++ bdS p q.1.ns)
     have h2 := ihr fun x hx => h x (by simp [hx])
     simp only [List.flatMap_cons, List.length_append, List.map_cons, List.sum_cons]; omega
   have h3 := this (subs d) ih
   omega
/-- The binding that a name means. -/
def Ys (x : ByteArray) (env : List Bd) : Option Bd := env.reverse.find? fun b => decide (b.nm = x)
theorem ylE (x : ByteArray) (env : List Bd) : (Ys x env).isSome = memB (env.map Bd.nm) x := by
 unfold Ys
 rw [Bool.eq_iff_iff, List.find?_isSome, yg4, List.mem_map]
 constructor
 ·rintro ⟨b, hb, h⟩
  exact ⟨b, List.mem_reverse.1 hb, by simpa using h⟩
 ·rintro ⟨b, hb, h⟩
  exact ⟨b, List.mem_reverse.2 hb, by simpa using h⟩
/-- The names that are free, in the order in which they are met. -/
def rfK (vs : List Vr) (S : List ByteArray) : List ByteArray := vs.foldl (fun S v => if (Ys v.nm v.env).isSome = true then S else addS S v.nm) S
theorem yix {vs : List Vr} {k : Nat} {v : Vr} {S : List ByteArray} (h : vs[k]? = some v) : rfK (vs.take (k + 1)) S = if (Ys v.nm v.env).isSome = true then rfK (vs.take k) S else addS (rfK (vs.take k) S) v.nm := by
 unfold rfK
 rw [yA h, List.foldl_append]; rfl
theorem ynz : ∀ (d : D) (p : List Int) (env : List Bd) (l S : List ByteArray), (∀ x, memB (env.map Bd.nm) x = memB l x) → rfK (rvars d p env) S = sfree d l S := by
 intro d
 induction d using D.indS with
 | h d ih =>
  intro p env l S hl
  rw [yaY, Za]
  split
  ·show (if (Ys d.text env).isSome = true then S else addS S d.text) = _
   rw [ylE, hl]
  ·have key : ∀ (r : List (Sub × D)) (S : List ByteArray), (∀ q, q ∈ r → q ∈ subs d) → rfK (r.flatMap fun q => rvars q.2 (p ++ q.1.p) (env ++ bdS p q.1.ns)) S = r.foldl (fun S q => sfree q.2 (q.1.ns.map (·.1) ++ l) S) S := by
    intro r
    induction r with
    | nil => intro S _; rfl
    | cons q r ihr =>
     intro S h
     rw [List.flatMap_cons, List.foldl_cons, ← ihr _ fun x hx => h x (by simp [hx])]
     unfold rfK
     rw [List.foldl_append]
     have := ih q (h q (by simp)) (p ++ q.1.p) (env ++ bdS p q.1.ns) (q.1.ns.map (·.1) ++ l) S (by
      intro x
      rw [List.map_append, ye8, ye8, hl, yrB]
      have : memB (q.1.ns.map (·.1)).reverse x = memB (q.1.ns.map (·.1)) x := by unfold memB; rw [List.any_reverse]
      rw [this, Bool.or_comm])
     unfold rfK at this
     rw [this]
   exact key _ S fun _ h => h
/-! ### rising order -/
def ltB (x y : ByteArray) : Bool := Op.bytesLess x.toList y.toList
def leB (x y : ByteArray) : Bool := Op.bytesLess x.toList y.toList || (x.toList == y.toList)
/-- A string put among others: what is there after the first ones, and whether it is in. -/
def insS (x : ByteArray) (st : List ByteArray × Bool) (y : ByteArray) : List ByteArray × Bool :=
 if (!st.2 && leB x y) = true then ((if ltB x y = true then st.1 ++ [x] else st.1) ++ [y], true) else (st.1 ++ [y], st.2)
def insK (x : ByteArray) (out : List ByteArray) (k : Nat) : List ByteArray × Bool := (out.take k).foldl (insS x) ([], false)
def insB (out : List ByteArray) (x : ByteArray) : List ByteArray := if (insK x out out.length).2 = true then (insK x out out.length).1 else (insK x out out.length).1 ++ [x]
def Y0 (l : List ByteArray) (k : Nat) : List ByteArray := (l.take k).foldl insB []
/-- Strings, each once, in rising order. -/
def rsort (l : List ByteArray) : List ByteArray := Y0 l l.length
theorem yhb {x y : ByteArray} {out : List ByteArray} {k : Nat} (h : out[k]? = some y) : insK x out (k + 1) = insS x (insK x out k) y := by
 unfold insK; rw [yA h, List.foldl_append]; rfl
theorem ycO {l : List ByteArray} {k : Nat} {x : ByteArray} (h : l[k]? = some x) : Y0 l (k + 1) = insB (Y0 l k) x := by
 unfold Y0; rw [yA h, List.foldl_append]; rfl
theorem yiT (x : ByteArray) (out : List ByteArray) (k : Nat) (h : k ≤ out.length) : (insK x out k).1.length ≤ k + (if (insK x out k).2 = true then 1 else 0) := by
 induction k with
 | zero => simp [insK]
 | succ k ih =>
  have hx : out[k]? = some (out[k]'(by omega)) := by simp
  have ih := ih (by omega)
  rw [yhb hx]
  unfold insS
  generalize insK x out k = st at ih
  obtain ⟨a, b⟩ := st
  cases b <;> simp at ih ⊢ <;> (repeat' split) <;> simp_all <;> omega
theorem yoC (out : List ByteArray) (x : ByteArray) : (insB out x).length ≤ out.length + 1 := by
 have := yiT x out out.length (Nat.le_refl _)
 unfold insB
 split
 ·rename_i h; rw [if_pos h] at this; exact this
 ·rename_i h; rw [if_neg h] at this; simp; omega
theorem yl7 (l : List ByteArray) (k : Nat) (h : k ≤ l.length) : (Y0 l k).length ≤ k := by
 induction k with
 | zero => simp [Y0]
 | succ k ih =>
  have hx : l[k]? = some (l[k]'(by omega)) := by simp
  rw [ycO hx]
  have := yoC (Y0 l k) (l[k]'(by omega))
  have := ih (by omega)
  omega
def insR (x : ByteArray) : List ByteArray → List ByteArray
 | [] => [x]
 | y :: r => if leB x y = true then (if ltB x y = true then x :: y :: r else y :: r) else y :: insR x r
theorem ygY (x : ByteArray) : ∀ (r a : List ByteArray), r.foldl (insS x) (a, true) = (a ++ r, true)
 | [], a => by simp
 | y :: r, a => by
  rw [List.foldl_cons]
  show r.foldl (insS x) (a ++ [y], true) = _
  rw [ygY x r]; simp
theorem yi1 (x : ByteArray) : ∀ (r a : List ByteArray), (if (r.foldl (insS x) (a, false)).2 = true then (r.foldl (insS x) (a, false)).1 else (r.foldl (insS x) (a, false)).1 ++ [x]) = a ++ insR x r
 | [], a => by simp [insR]
 | y :: r, a => by
  rw [List.foldl_cons]
  unfold insR
  by_cases h : leB x y = true
  ·have e : insS x (a, false) y = ((if ltB x y = true then a ++ [x] else a) ++ [y], true) := by unfold insS; rw [if_pos (by simpa using h)]
   rw [e, ygY, if_pos rfl, if_pos h]
   split <;> simp
  ·have e : insS x (a, false) y = (a ++ [y], false) := by unfold insS; rw [if_neg (by simpa using h)]
   rw [e, yi1 x r, if_neg h]; simp
theorem yqw (out : List ByteArray) (x : ByteArray) : insB out x = insR x out := by
 have := yi1 x out []
 unfold insB insK
 rw [List.take_length]
 exact this
theorem ykB (x y : ByteArray) : ltB x y = true ↔ x.data.toList < y.data.toList := by
 unfold ltB
 rw [Proofs.bytesLess_eq, Lib.toList_data, Lib.toList_data, decide_eq_true_eq]
theorem ygr (x y : ByteArray) : leB x y = true ↔ x.data.toList ≤ y.data.toList := by
 have h := ykB x y
 unfold ltB at h
 unfold leB
 rw [Bool.or_eq_true, h, Lib.toList_data, Lib.toList_data, beq_iff_eq]
 exact List.le_iff_lt_or_eq.symm
theorem yhg (x : ByteArray) : ∀ (l : List ByteArray), ¬ x ∈ l → (insR x l).Perm (x :: l)
 | [], _ => .refl _
 | y :: r, h => by
  unfold insR
  split
  ·rename_i h1
   split
   ·exact .refl _
   ·rename_i h2
    exfalso
    rw [ygr, List.le_iff_lt_or_eq] at h1
    rcases h1 with h1 | h1
    ·exact h2 ((ykB x y).2 h1)
    ·exact h (by
      have : x = y := ByteArray.ext (Array.toList_inj.1 h1)
      rw [this]; simp)
  ·exact ((yhg x r fun hm => h (by simp [hm])).cons y).trans (List.Perm.swap _ _ _)
theorem yiN (x : ByteArray) : ∀ (l : List ByteArray) (z : ByteArray), z ∈ insR x l → z = x ∨ z ∈ l
 | [], z, h => by simp [insR] at h; exact .inl h
 | y :: r, z, h => by
  unfold insR at h
  split at h
  ·split at h
   ·simp at h ⊢; exact h
   ·simp at h ⊢; exact .inr h
  ·rcases List.mem_cons.1 h with h | h
   ·exact .inr (by simp [h])
   ·rcases yiN x r z h with h | h
    ·exact .inl h
    ·exact .inr (by simp [h])
theorem yeu (x : ByteArray) : ∀ (l : List ByteArray), (l.map fun s => s.data.toList).Pairwise (· ≤ ·) → ((insR x l).map fun s => s.data.toList).Pairwise (· ≤ ·)
 | [], _ => by simp [insR]
 | y :: r, h => by
  simp only [List.map_cons, List.pairwise_cons] at h
  unfold insR
  split
  ·rename_i h1
   rw [ygr] at h1
   split
   ·simp only [List.map_cons, List.pairwise_cons]
    refine ⟨fun z hz => ?_, h⟩
    rcases List.mem_cons.1 hz with rfl | hz
    ·exact h1
    ·exact List.le_trans h1 (h.1 z hz)
   ·simp only [List.map_cons, List.pairwise_cons]; exact h
  ·rename_i h1
   rw [ygr] at h1
   simp only [List.map_cons, List.pairwise_cons]
   refine ⟨fun z hz => ?_, yeu x r h.2⟩
   obtain ⟨u, hu, rfl⟩ := List.mem_map.1 hz
   rcases yiN x r u hu with rfl | hu
   ·exact (List.le_total _ _).resolve_left h1
   ·exact h.1 _ (List.mem_map.2 ⟨u, hu, rfl⟩)
theorem ykO (l : List ByteArray) (hn : l.Nodup) : ∀ k, k ≤ l.length → (Y0 l k).Perm (l.take k) ∧ ((Y0 l k).map fun s => s.data.toList).Pairwise (· ≤ ·) := by
 intro k
 induction k with
 | zero => intro _; simp [Y0]
 | succ k ih =>
  intro hk
  obtain ⟨h1, h2⟩ := ih (by omega)
  have hx : l[k]? = some (l[k]'(by omega)) := by simp
  rw [ycO hx, yqw, yA hx]
  refine ⟨(yhg _ _ fun hm => ?_).trans ((h1.cons _).trans (List.perm_append_singleton _ _).symm), yeu _ _ h2⟩
  have hm := h1.mem_iff.1 hm
  obtain ⟨i, hi, e⟩ := List.getElem_of_mem hm
  rw [List.length_take] at hi
  rw [List.getElem_take] at e
  have := List.pairwise_iff_getElem.1 (List.nodup_iff_pairwise_ne.1 hn) i k (by omega) (by omega) (by omega)
  exact this e
theorem ynO {l : List ByteArray} (hn : l.Nodup) : rsort l = Yj l := by
 obtain ⟨h1, h2⟩ := ykO l hn l.length (Nat.le_refl _)
 rw [List.take_length] at h1
 have hp : ((rsort l).map fun s => s.data.toList) = (l.map fun s => s.data.toList).mergeSort fun x y => decide (x ≤ y) := by
  refine Z9 (r := fun x y => (decide (x ≤ y)) = true) (fun a b h1 h2 => List.le_antisymm (by simpa using h1) (by simpa using h2)) ?_ (h2.imp fun h => by simpa using h) (List.pairwise_mergeSort (le := fun x y => decide (x ≤ y)) ydz ydu _)
  exact (h1.map _).trans (List.mergeSort_perm _ _).symm
 unfold Yj
 rw [← hp, List.map_map]
 have : (bstr ∘ fun s : ByteArray => s.data.toList) = id := by funext s; simp [bstr]
 rw [this, List.map_id]
theorem yl3 (vs : List Vr) : ∀ S : List ByteArray, S.Nodup → (rfK vs S).Nodup := by
 induction vs with
 | nil => intro S h; exact h
 | cons v vs ih =>
  intro S h
  show (rfK vs (if (Ys v.nm v.env).isSome = true then S else addS S v.nm)).Nodup
  refine ih _ ?_
  split
  ·exact h
  ·unfold addS
   split
   ·exact h
   ·rename_i hm
    rw [List.nodup_append]
    refine ⟨h, by simp, ?_⟩
    intro a ha b hb e
    rw [List.mem_singleton] at hb
    subst hb e
    exact hm (yeK.2 ha)
theorem yoj (d : D) : rsort (rfK (rvars d [] []) []) = Yj (sfree d [] []) := by
 have h := ynz d [] [] [] [] (fun x => rfl)
 rw [ynO (yl3 _ [] (by simp)), h]
end Go.Aw

namespace Go.Aw
open Go
section
variable {P : Program} {ty : TyT} {σ0 : Store} {N : Nat} {s s' : St} {Q : Exit → St → Prop}
theorem ybw {c : Code} {ι : Type} (no nt nl : Nat) (keep : List Nat) (m : ι → List (Nat × AV)) (L : ι → List (List AV)) (σf : ι → Store) (I : ι → Prop) (μ : ι → Nat) (i0 : ι) (hi0 : I i0) (h0 : Weak σ0 no nt nl s (Yt s keep (m i0) (L i0) (σf i0)))
  (round : ∀ i, I i → AWp P σ0 N c (Then (Next σ0 (fun i => Yt s keep (m i) (L i) (σf i)) I μ i) Q) (Yt s keep (m i) (L i) (σf i))) : AWp P σ0 N (.loop c) Q s :=
 ydh (fun i => Yt s keep (m i) (L i) (σf i)) I μ i0 hi0 h0 round

/-- A slice without room that stands in a private box may be appended to from now on. -/
theorem yls {c : Code} (i j : Nat) {cs : List AV} {x : AV} {xs : List PV} (e : TypeId) (sz : Nat) (hL : s.L[i]? = some cs) (hx : cs[j]? = some x) (hf : x.fullElems = some xs) (hs : yW sz xs = true)
  (k : AWp P σ0 N c Q ⟨s.T, s.L.set i (cs.set j (.acc xs s.σ.toks.length)), { s.σ with toks := s.σ.toks ++ [⟨xs.length, e, sz⟩] }⟩) : AWp P σ0 N c Q s := by
 rintro g0 w0 a w ⟨g, r⟩
 obtain ⟨i1, le1⟩ := r.2.1.adopt ⟨xs.length, e, sz⟩
 have i2 : Inv { g with tb := g.tb ++ [none] } { s.σ with toks := s.σ.toks ++ [⟨xs.length, e, sz⟩] } (s.L.set i (cs.set j (.acc xs s.σ.toks.length))) w := by
  refine ⟨i1.lio, by simp only [List.length_set]; exact i1.llam, i1.ltb, i1.glob, i1.nodup, i1.low, i1.kept, i1.base, i1.cells, i1.objs, fun o ds b hds hb => ?_, i1.toks⟩
  rw [List.getElem?_set] at hds
  split at hds
  ·subst_vars
   rw [if_pos (List.getElem?_eq_some_iff.1 hL).1] at hds
   cases hds
   obtain ⟨vs, e', h1, h2, h3, h4⟩ := r.2.1.priv _ cs b hL hb
   refine ⟨vs, e', h1, by rw [List.length_set]; exact h2, h3, fun n y v hy hv => ?_⟩
   rw [List.getElem?_set] at hy
   split at hy
   ·subst_vars
    split at hy
    ·cases hy
     exact (h4 _ x v hx hv).adopt hf r.2.1 ⟨xs.length, e, sz⟩ rfl (by simpa [yW] using hs)
    ·cases hy
   ·exact (h4 n y v hy hv).mono le1 (fun _ _ h => h)
  ·exact i1.priv o ds b hds hb
 exact k g0 w0 a w ⟨_, r.later (σ' := { s.σ with toks := s.σ.toks ++ [⟨xs.length, e, sz⟩] }) (L' := s.L.set i (cs.set j (.acc xs s.σ.toks.length))) le1 (fun _ _ h => h) i2 rfl rfl (fun _ _ => rfl) (Nat.le_refl _) rfl rfl rfl⟩

def yij (s : St) (i j : Nat) (e : TypeId) (sz : Nat) : Option St :=
 match s.L[i]? with
 | some cs => match cs[j]? with
  | some x => match x.fullElems with
   | some xs => if yW sz xs = true then some ⟨s.T, s.L.set i (cs.set j (.acc xs s.σ.toks.length)), { s.σ with toks := s.σ.toks ++ [⟨xs.length, e, sz⟩] }⟩ else none
   | none => none
  | none => none
 | none => none

theorem yjj {c : Code} (i j : Nat) (e : TypeId) (sz : Nat) (h : yij s i j e sz = some s') (k : AWp P σ0 N c Q s') : AWp P σ0 N c Q s := by
 unfold yij at h
 split at h
 ·split at h
  ·split at h
   ·split at h
    ·cases h; exact yls i j e sz ‹_› ‹_› ‹_› ‹_› k
    ·cases h
   ·cases h
  ·cases h
 ·cases h
end
attribute [go_sem] yij
theorem ylA {σ : Store} {o : Nat} {v v' : Int} {T : List Tok} : setC { setC σ o v with toks := T } o v' = { setC σ o v' with toks := T } := by simp [setC]
theorem yiG (k n : Int) (t : ByteArray) (l : List D) : enc (.mk k n t l) = .agg [.int .i64 k, .int .i64 n, .str t, .slice (l.map enc)] := by rw [yap]; rfl
end Go.Aw

namespace Go.Aw
open Go
theorem yjp {d : D} (hf : formed d = true) (hk : d.kind = 2) : ya3 d.text = (zr d.text == 0) := by
 have h := (ycA hf hk).2.2
 unfold ya3
 rw [ZE, h, yr]; simp
theorem yoS (s : ByteArray) : decide (0 < zr s) = !(zr s == 0) := by
 have := ybD s
 by_cases h : zr s = 0
 ·rw [h]; rfl
 ·have h1 : 0 < zr s := by omega
  have h2 : (zr s == 0) = false := by simpa using h
  rw [h2]; simpa using h1
/-- A list of different names: no. -/
def yaC (l : List D) : Bool := (List.range l.length).any (YN l)
theorem yfg {l : List D} {k : Nat} {x : D} (h : l[k]? = some x) : YN l k = (!nmS x || memB ((l.map D.text).take k) x.text) := by
 unfold YN
 rw [h, ← List.map_take]
theorem ZL (d : D) (m : Int) : Yy d m = ((!listB d.kids && d.kind == 3) && decide ((d.kids.length : Int) ≤ m)) := by
 unfold Yy zX
 show (d.kind == 3 && (if decide (m < (d.kids.length : Int)) = true then false else !listB d.kids)) = _
 by_cases h : m < (d.kids.length : Int)
 ·rw [if_pos (by simpa using h)]
  have : decide ((d.kids.length : Int) ≤ m) = false := decide_eq_false (by omega)
  rw [this]; simp
 ·rw [if_neg (by simpa using h)]
  have : decide ((d.kids.length : Int) ≤ m) = true := decide_eq_true (by omega)
  rw [this, Bool.and_true, Bool.and_comm]
def gBad (l : List D) (j : Nat) : Bool := match l[j]? with
 | some x => zK x || YN (l.map D.head) j
 | none => false
theorem ypR {l : List D} {k : Nat} {x : D} (h : l[k]? = some x) : gBad l k = (((x.kind != 3 || (x.kids.length : Int) != 3) || !isNms (d1 x.kids) 8) || (!nmS x.head || memB ((l.map fun x => x.head.text).take k) x.head.text)) := by
 unfold gBad
 rw [h]
 show (zK x || YN (l.map D.head) k) = _
 rw [yfg (x := x.head) (by rw [List.getElem?_map, h]; rfl)]
 unfold zK
 rw [List.map_map]; rfl
theorem ynU (d : D) : zG d = (((!(List.range d.kids.length).any (gBad d.kids) && d.kind == 3) && decide (1 ≤ (d.kids.length : Int))) && decide ((d.kids.length : Int) ≤ 40)) := by
 have hany : (List.range d.kids.length).any (gBad d.kids) = (d.kids.any zK || (List.range d.kids.length).any (YN (d.kids.map D.head))) := by
  rw [Bool.eq_iff_iff, List.any_eq_true, Bool.or_eq_true, List.any_eq_true, List.any_eq_true]
  constructor
  ·rintro ⟨j, hj, h⟩
   unfold gBad at h
   have hj2 := List.mem_range.1 hj
   rw [List.getElem?_eq_getElem hj2] at h
   simp only [Bool.or_eq_true] at h
   rcases h with h | h
   ·exact .inl ⟨_, List.getElem_mem hj2, h⟩
   ·exact .inr ⟨j, hj, h⟩
  ·rintro (⟨x, hx, h⟩ | ⟨j, hj, h⟩)
   ·obtain ⟨j, hj, rfl⟩ := List.getElem_of_mem hx
    refine ⟨j, List.mem_range.2 hj, ?_⟩
    unfold gBad
    rw [List.getElem?_eq_getElem hj]
    simp only [h, Bool.true_or]
   ·have hj2 := List.mem_range.1 hj
    refine ⟨j, hj, ?_⟩
    unfold gBad
    rw [List.getElem?_eq_getElem hj2]
    simp only [h, Bool.or_true]
 unfold zG zX
 rw [hany, List.length_map]
 generalize d.kids.any zK = a
 generalize (List.range d.kids.length).any (YN (d.kids.map D.head)) = b
 generalize hn : (d.kids.length : Int) = n
 have hn0 : 0 ≤ n := by omega
 by_cases h0 : n = 0
 ·subst h0; simp
 ·by_cases h40 : 40 < n
  ·have e1 : decide (n ≤ 40) = false := decide_eq_false (by omega)
   have e2 : decide (40 < n) = true := decide_eq_true h40
   rw [e1, e2]; simp
  ·have e1 : decide (n ≤ 40) = true := decide_eq_true (by omega)
   have e2 : decide (40 < n) = false := decide_eq_false h40
   have e3 : decide (1 ≤ n) = true := decide_eq_true (by omega)
   have e4 : (n == 0) = false := by simpa using h0
   rw [e1, e2, e3, e4]
   cases hk : (d.kind == 3) <;> cases a <;> cases b <;> simp_all
theorem fm9 (k : List D) : fmOk 9 k = (((k.length : Int) == 3 && Yy (d1 k) 8) && ((d1 k).kids.length : Int) == 3) := by
 show (((k.length : Int) == 3 && Yy (d1 k) 3) && ((d1 k).kids.length : Int) == 3) = _
 by_cases h : ((d1 k).kids.length : Int) = 3
 ·rw [ZL, ZL, h]; rfl
 ·have : (((d1 k).kids.length : Int) == 3) = false := by simpa using h
  rw [this]; simp
/-- Where a path leads, step by step. -/
theorem ynZ {d x : D} {p : List Int} (h : d.sub p = some x) {k : Nat} (hk : k < p.length) {c : D} (hc : d.sub (p.take k) = some c) : ∃ (j : Int) (y : D), p[k]? = some j ∧ 0 ≤ j ∧ j < c.kids.length ∧ c.kids[j.toNat]? = some y ∧ d.sub (p.take (k + 1)) = some y := by
 have hx : p[k]? = some p[k] := by simp [hk]
 have h2 : d.sub (p.take (k + 1) ++ p.drop (k + 1)) = some x := by rw [List.take_append_drop]; exact h
 rw [D.sub_append] at h2
 cases h3 : d.sub (p.take (k + 1)) with
 | none => rw [h3] at h2; cases h2
 | some y =>
  have h4 := h3
  rw [yA hx, D.sub_append, hc] at h4
  simp only [Option.bind_some, D.sub] at h4
  split at h4
  ·rename_i h0
   cases h5 : c.kids[p[k].toNat]? with
   | none => rw [h5] at h4; cases h4
   | some z =>
    rw [h5] at h4
    simp only [Option.bind_some, Option.some.injEq] at h4
    subst h4
    refine ⟨p[k], z, hx, h0, ?_, h5, rfl⟩
    have := (List.getElem?_eq_some_iff.1 h5).1
    omega
  ·cases h4
theorem yhU : ∀ {p : List Int} {d x : D}, d.sub p = some x → x.size + p.length ≤ d.size
 | [], d, x, h => by simp [D.sub] at h; subst h; simp
 | i :: p, d, x, h => by
  simp only [D.sub] at h
  split at h
  ·cases h5 : d.kids[i.toNat]? with
   | none => rw [h5] at h; cases h
   | some z =>
    rw [h5] at h
    have h6 := yhU (p := p) (d := z) (x := x) (by simpa using h)
    have h7 := D.size_kid_lt (List.mem_of_getElem? h5)
    simp only [List.length_cons]; omega
  ·cases h
theorem yfL : ∀ {p : List Int} {d x : D}, d.sub p = some x → formed d = true → formed x = true
 | [], d, x, h, hf => by simp [D.sub] at h; subst h; exact hf
 | i :: p, d, x, h, hf => by
  simp only [D.sub] at h
  split at h
  ·cases h5 : d.kids[i.toNat]? with
   | none => rw [h5] at h; cases h
   | some z =>
    rw [h5] at h
    exact yfL (p := p) (d := z) (x := x) (by simpa using h) (yO hf (List.mem_of_getElem? h5))
  ·cases h
theorem yeq {d : D} (hf : formed d = true) {q : Sub × D} (hq : q ∈ subs d) : formed q.2 = true := yfL (D.sub_subs hq) hf
end Go.Aw

namespace Go.Aw
open Go
/-- The paths of the parts. -/
def prts (d : D) : List (List Int) := (subs d).map fun q => q.1.p
theorem Z1 (d : D) : (prts d).length = (subs d).length := by unfold prts; rw [List.length_map]
theorem Z6 {d : D} {k : Nat} {q : Sub × D} (h : (subs d)[k]? = some q) : (prts d)[k]? = some q.1.p := by unfold prts; rw [List.getElem?_map, h]; rfl
theorem yn8 {d : D} (h : yb d = 4) (hl : d.kids.length = 4) : prts d = [[1], [2], [3]] := by
 unfold prts
 rw [zV (.inl h)]
 generalize d.kids = l at hl
 match l, hl with
 | [a, b, c, e], _ => rfl
theorem ynQ {d : D} (h : yb d = 8) (hl : d.kids.length = 3) : prts d = [[1], [2]] := by
 unfold prts
 rw [zV (.inr h)]
 generalize d.kids = l at hl
 match l, hl with
 | [a, b, c], _ => rfl
theorem ykp {d : D} (h : yb d = 5 ∨ yb d = 9) : prts d = [[2]] := by unfold prts; rw [y4 h]; rfl
theorem ynS {d : D} (h : yb d = 6) : prts d = [[2], [3]] := by unfold prts; rw [yQ h]; rfl
theorem yob {d : D} (h : yb d = 7) {k : Nat} (hk : k < (d1 d.kids).kids.length) : (prts d)[k]? = some [1, (k : Int), 2] := by
 obtain ⟨x, hx, _⟩ := ym hk
 rw [Z6 (Yc h hx)]; rfl
theorem ynt {d : D} (h : yb d = 7) : (prts d)[(d1 d.kids).kids.length]? = some [2] ∧ (prts d).length = (d1 d.kids).kids.length + 1 := by
 obtain ⟨h1, h2⟩ := Yq h
 exact ⟨by rw [Z6 h1]; rfl, by rw [Z1, h2]⟩
theorem yoz {d : D} (h : yb d = 10) {k : Nat} (hk : k < d.kids.length) : (prts d)[k]? = some [(k : Int)] := by
 obtain ⟨x, hx, _⟩ := ym hk
 have : (subs d)[k]? = some (sub0 k x) := by rw [YC h, zB, hx]; rfl
 rw [Z6 this]; rfl
theorem ymH {d : D} (h : yb d = 10) : (prts d).length = d.kids.length := by rw [Z1, YC h, zt]
theorem ylF {d : D} (h : yb d ≠ 4 ∧ yb d ≠ 5 ∧ yb d ≠ 9 ∧ yb d ≠ 6 ∧ yb d ≠ 8 ∧ yb d ≠ 7 ∧ yb d ≠ 10) : prts d = [] := by
 unfold prts
 rw [Yg (by cases shape d <;> omega)]; rfl
theorem ypJ {d : D} (h : yb d = 4) : d.kids.length = 4 := by cases shape d <;> omega
theorem yqK {d : D} (h : yb d = 8) : d.kids.length = 3 := by cases shape d <;> omega
theorem yd4 (d : D) : (subs d).length ≤ d.size := by
 have hb := yao d
 have : ∀ r : List (Sub × D), r.length ≤ (r.map fun q => q.2.size).sum := by
  intro r
  induction r with
  | nil => simp
  | cons q r ih => have := D.size_pos q.2; simp only [List.length_cons, List.map_cons, List.sum_cons]; omega
 have := this (subs d)
 omega
theorem ylZ {d : D} (hf : yb d = 5 ∨ yb d = 9) : Yy (d1 d.kids) 8 = true := by
 cases shape d with
 | fn _ _ hn => exact hn
 | up _ _ hn h3 => rw [ZL] at hn ⊢; rw [h3] at hn ⊢; exact hn
 | none h => omega
 | num h => omega
 | name h => omega
 | quote h => omega
 | iff h => omega
 | lett h => omega
 | recc h => omega
 | seqq h => omega
 | app h => omega
theorem yeM {d : D} {m : Int} (h : Yy d m = true) : yaC d.kids = false ∧ d.kind = 3 := by
 rw [ZL] at h
 simp only [Bool.and_eq_true, Bool.not_eq_true', beq_iff_eq] at h
 exact h.1
theorem ypO {d : D} (h : yb d = 7) {x : D} (hx : x ∈ (d1 d.kids).kids) : Yy (d1 x.kids) 8 = true := by
 have hg : zG (d1 d.kids) = true := by cases shape d <;> first | assumption | omega
 unfold zG at hg
 split at hg
 ·cases hg
 ·split at hg
  ·cases hg
  ·rename_i h2
   have h3 : zK x = false := by
    cases hb : zK x with
    | false => rfl
    | true => exact absurd (List.any_eq_true.2 ⟨x, hx, hb⟩) h2
   unfold zK at h3
   simp only [Bool.or_eq_false_iff, Bool.not_eq_false'] at h3
   exact h3.2
end Go.Aw

namespace Go.Aw
open Go
/-- Bindings, and the first new ones. -/
def wEnv (env : List Bd) (p : List Int) (n : Int) (ns : List ByteArray) (k : Nat) : List Bd := env ++ (bdW p n ns).take k
theorem ymo (env : List Bd) (p : List Int) (n : Int) (ns : List ByteArray) : wEnv env p n ns 0 = env := by unfold wEnv; simp
theorem ymU {env : List Bd} {p : List Int} {n : Int} {ns : List ByteArray} {k : Nat} {x : ByteArray} (h : ns[k]? = some x) : (wEnv env p n ns (k + 1)).map zS = (wEnv env p n ns k).map zS ++ [.agg [.str x, .slice (p.map (.int .i64)), .int .i64 (n + (k : Int))]] := by
 unfold wEnv
 rw [yoe h, ← List.append_assoc, List.map_append]; rfl
theorem yiP {env : List Bd} {p : List Int} {n : Int} {ns : List ByteArray} {k : Nat} (h : k ≤ ns.length) : (wEnv env p n ns k).length = env.length + k := by
 unfold wEnv; simp [ygh]; omega
theorem yoT (env : List Bd) (p : List Int) (n : Int) (ns : List ByteArray) : wEnv env p n ns ns.length = env ++ bdW p n ns := by
 unfold wEnv; rw [List.take_of_length_le (by rw [ygh]; exact Nat.le_refl _)]
def scpP (e : List Bd) : PV := .slice (e.map zS)
@[go_sem] theorem ykY (e : List Bd) : (scpP e).cells = [scpP e] := rfl
@[go_sem] theorem ysH (l : List (List Bd)) : yW 1 (l.map scpP) = true := by simp [yW, ykY]
theorem ye0 {d : D} {p : List Int} {env : List Bd} {k : Nat} {q : Sub × D} (h : (subs d)[k]? = some q) : (scps d p env)[k]? = some (env ++ bdS p q.1.ns) := by unfold scps; rw [List.getElem?_map, h]; rfl
theorem yiK (d : D) (p : List Int) (env : List Bd) : (scps d p env).length = (subs d).length := by unfold scps; rw [List.length_map]
theorem ylQ {d : D} {p : List Int} (h : yb d = 5 ∨ yb d = 9) {q : Sub × D} (hq : q ∈ subs d) : bdS p q.1.ns = bdW p 0 (ownS d) := by
 rw [y4 h] at hq
 rw [List.mem_singleton.1 hq]
 exact ya6 _ _ _
theorem yo9 {d : D} {p : List Int} (h : yb d = 6) {q : Sub × D} (hq : (subs d)[0]? = some q) : bdS p q.1.ns = [] := by
 rw [yQ h] at hq
 cases hq; rfl
theorem ypc {d : D} {p : List Int} (h : yb d = 6) {q : Sub × D} (hq : (subs d)[1]? = some q) : bdS p q.1.ns = bdW p 0 (ownS d) := by
 rw [yQ h] at hq
 cases hq
 exact ya6 _ _ _
theorem ypH {d : D} (h : yb d = 6) : (subs d).length = 2 := by rw [yQ h]; rfl
theorem yqB {d : D} {p : List Int} (h : yb d = 7) {k : Nat} {q : Sub × D} (hq : (subs d)[k]? = some q) {x : D} (hx : (d1 d.kids).kids[k]? = some x) : bdS p q.1.ns = bdW p 0 (ownS d) ++ bdW p (yV (d1 d.kids).kids k) (parS x) := by
 rw [Yc h hx] at hq
 cases hq
 show bdS p (_ ++ _) = _
 rw [yqi, ya6, ya6]
theorem ynP {d : D} {p : List Int} (h : yb d = 7) {q : Sub × D} (hq : (subs d)[(d1 d.kids).kids.length]? = some q) : bdS p q.1.ns = bdW p 0 (ownS d) := by
 rw [(Yq h).1] at hq
 cases hq
 exact ya6 _ _ _
theorem ynN {d : D} {p : List Int} (h : yb d ≠ 5 ∧ yb d ≠ 9 ∧ yb d ≠ 6 ∧ yb d ≠ 7) {q : Sub × D} (hq : q ∈ subs d) : bdS p q.1.ns = [] := by
 rw [yeP h hq]; rfl
theorem ycn (l : List ByteArray) (n : Int) : (numb l n).length = l.length := zt _ _
theorem ykd (p : List Int) (ns : List (ByteArray × Int)) : (bdS p ns).length = ns.length := by unfold bdS; simp
/-- What is bound at a part, and the part, are in the whole. -/
theorem ypk {d : D} {q : Sub × D} (hq : q ∈ subs d) : q.1.ns.length + q.2.size ≤ d.size := by
 have hb := yao d
 have h2 : q.2.size ≤ ((subs d).map fun q => q.2.size).sum := by
  have : ∀ r : List (Sub × D), q ∈ r → q.2.size ≤ (r.map fun q => q.2.size).sum := by
   intro r
   induction r with
   | nil => intro h; simp at h
   | cons x r ih =>
    intro h
    rcases List.mem_cons.1 h with rfl | h
    ·simp
    ·have := ih h; simp; omega
  exact this _ hq
 have h1 : q.1.ns.length ≤ (ownS d).length + (if (yb d == 7) = true then ((d1 d.kids).kids.map fun x => (parS x).length).sum else 0) := by
  by_cases h5 : yb d = 5 ∨ yb d = 9
  ·rw [y4 h5] at hq
   rw [List.mem_singleton.1 hq]
   simp [subL, ycn]
  by_cases h6 : yb d = 6
  ·rw [yQ h6] at hq
   simp only [List.mem_cons, List.not_mem_nil, or_false] at hq
   rcases hq with rfl | rfl
   ·simp
   ·simp [subL, ycn]
  by_cases h7 : yb d = 7
  ·rw [y9 h7, List.mem_append, List.mem_singleton] at hq
   rw [if_pos (by simpa using h7)]
   rcases hq with hq | rfl
   ·obtain ⟨i, x, hx, rfl⟩ := YD hq
    have : (parS x).length ≤ ((d1 d.kids).kids.map fun x => (parS x).length).sum := by
     have : ∀ r : List D, x ∈ r → (parS x).length ≤ (r.map fun x => (parS x).length).sum := by
      intro r
      induction r with
      | nil => intro h; simp at h
      | cons y r ih =>
       intro h
       rcases List.mem_cons.1 h with rfl | h
       ·simp
       ·have := ih h; simp; omega
     exact this _ (List.mem_of_getElem? hx)
    simp [subR, ycn]; omega
   ·simp [subL, ycn]
  ·rw [yeP ⟨fun h => h5 (.inl h), fun h => h5 (.inr h), h6, h7⟩ hq]; simp
 omega
/-- The variables in the first parts. -/
def rvK (d : D) (p : List Int) (env : List Bd) (k : Nat) : List Vr := ((subs d).take k).flatMap fun q => rvars q.2 (p ++ q.1.p) (env ++ bdS p q.1.ns)
theorem yov (d : D) (p : List Int) (env : List Bd) : rvK d p env 0 = [] := rfl
theorem yo7 {d : D} {p : List Int} {env : List Bd} {k : Nat} {q : Sub × D} (h : (subs d)[k]? = some q) : rvK d p env (k + 1) = rvK d p env k ++ rvars q.2 (p ++ q.1.p) (env ++ bdS p q.1.ns) := by
 unfold rvK; rw [yA h, List.flatMap_append]; simp
theorem ykm {d : D} {p : List Int} {env : List Bd} (h : yb d ≠ 2) : rvK d p env (subs d).length = rvars d p env := by
 rw [yaY, if_neg (by simpa using h)]; unfold rvK; rw [List.take_length]
theorem ypp {d : D} {p : List Int} {env : List Bd} (h : yb d ≠ 2) (k : Nat) : (rvK d p env k).length ≤ d.size := by
 have h1 := ygI d p env
 rw [← ykm h] at h1
 have h2 : rvK d p env (subs d).length = rvK d p env k ++ ((subs d).drop k).flatMap fun q => rvars q.2 (p ++ q.1.p) (env ++ bdS p q.1.ns) := by
  unfold rvK
  rw [List.take_length, ← List.flatMap_append, List.take_append_drop]
 rw [h2, List.length_append] at h1
 omega
theorem ypv (vs : List Vr) (k : Nat) (S : List ByteArray) : (rfK (vs.take k) S).length ≤ S.length + k := by
 induction k with
 | zero => simp [rfK]
 | succ k ih =>
  by_cases h : k < vs.length
  ·have hx : vs[k]? = some vs[k] := by simp [h]
   rw [yix hx]
   split
   ·omega
   ·have := ycE (rfK (vs.take k) S) vs[k].nm; omega
  ·rw [List.take_of_length_le (by omega)] at ih ⊢; omega
/-- What is around a variable is not much. -/
theorem ykV : ∀ (d : D) (p : List Int) (env : List Bd) (v : Vr), v ∈ rvars d p env → v.env.length ≤ env.length + d.size := by
 intro d
 induction d using D.indS with
 | h d ih =>
  intro p env v hv
  rw [yaY] at hv
  split at hv
  ·rw [List.mem_singleton.1 hv]; simp
  ·obtain ⟨q, hq, hv⟩ := List.mem_flatMap.1 hv
   have h1 := ih q hq _ _ v hv
   have h2 := ypk hq
   rw [List.length_append, ykd] at h1
   omega
theorem ymx {d : D} (v : Vr) (h : v ∈ rvars d [] []) : v.env.length ≤ ([] : List Bd).length + d.size := ykV d [] [] v h
def bd0 : Bd := ⟨⟨#[]⟩, [], 0⟩
theorem yjU {x : ByteArray} {env : List Bd} {k : Nat} {b : Bd} (h : NotYet (fun b : Bd => decide (b.nm = x)) env.reverse k) (hb : env.reverse[k]? = some b) (hx : decide (b.nm = x) = true) : Ys x env = some b := yfP h hb hx
theorem ylw {x : ByteArray} {env : List Bd} (h : NotYet (fun b : Bd => decide (b.nm = x)) env.reverse env.reverse.length) : Ys x env = none := ygX h
theorem yrF {α : Type} {l : List α} {k : Nat} (h : k < l.length) : ∃ x, l.reverse[k]? = some x ∧ l[l.length - 1 - k]? = some x := by
 refine ⟨l[l.length - 1 - k], ?_, by simp⟩
 rw [List.getElem?_reverse h]; simp
theorem zQ (x y : ByteArray) : (ltB x y || decide (x = y)) = leB x y := by
 unfold leB ltB
 congr 1
 rw [Lib.toList_data, Lib.toList_data, Bool.eq_iff_iff, decide_eq_true_eq, beq_iff_eq]
 exact ⟨fun h => by rw [h], fun h => ByteArray.ext (Array.toList_inj.1 h)⟩
end Go.Aw

namespace Go.Aw
open Go
/-- A variable of one cell. -/
theorem ylI {B : Nat} {S : Nat → Nat → Prop} {w : World} {n : Nat} {p : PV} {v : Value} (hn : n < B) (hc : w.cell? ⟨n, 0, none⟩ = some v) (h1 : v.oneCell' = true) (hp : RP B S w p v) : RP B S w (.ptr [p]) (.pointer (some ⟨n, 0, none⟩)) := by
 refine RP.ptr (vs := [v]) rfl (fun i u hu => ?_) (fun i x u hx hu => ?_)
 ·match i with
  | 0 => simp at hu; subst hu; exact ⟨.inl hn, by simpa using hc, h1⟩
  | i + 1 => simp at hu
 ·match i with
  | 0 => simp at hx hu; subst hx hu; exact hp
  | i + 1 => simp at hx
theorem yj4 {w : World} {n i : Nat} {v : Value} (h : w.cell? ⟨n, i, none⟩ = some v) : n < w.heap.size := by
 unfold World.cell? at h
 by_cases hlt : n < w.heap.size
 ·exact hlt
 ·rw [Array.getElem?_eq_none (by show w.heap.size ≤ n; omega)] at h; simp at h
/-- A datum that is handed over. -/
theorem yo5 {v : Value} {k n : Int} {t : ByteArray} {u : Value} (h : v.cells.toList = [.int .i64 k, .int .i64 n, .string t, u]) : v = .agg #[.int .i64 k, .int .i64 n, .string t, u] := by
 cases v with
 | agg cs => simp only [Value.cells] at h; rw [← Array.toArray_toList (xs := cs), h]
 | _ => simp [Value.cells] at h
theorem yow {B : Nat} {S : Nat → Nat → Prop} {w : World} {d : D} {u : Value} (h1 : u.oneCell' = true) (h : RP B S w (.slice (d.kids.map enc)) u) : RP B S w (enc d) (.agg #[.int .i64 d.kind, .int .i64 d.num, .string d.text, u]) := by
 rw [yap]
 refine RP.agg (vs := [.int .i64 d.kind, .int .i64 d.num, .string d.text, u]) rfl (fun v hv => ?_) (fun i x v hx hv => ?_)
 ·simp only [List.mem_cons, List.not_mem_nil, or_false] at hv
  rcases hv with rfl | rfl | rfl | rfl <;> first | rfl | exact h1
 ·match i with
  | 0 => simp at hx hv; subst hx hv; exact .int
  | 1 => simp at hx hv; subst hx hv; exact .int
  | 2 => simp at hx hv; subst hx hv; exact .str
  | 3 => simp at hx hv; subst hx hv; exact h
  | i + 4 => simp at hx
end Go.Aw

namespace Go.Aw
open Go Go.ChangeShapes Go.WideShapes Go.ChangeAt Go.WideMaps Go.WideElems Go.RowKit
theorem ygE {α β : Type} {f : α → β} : ∀ {l : List α}, (l.map f).Nodup → ∀ {a b : α}, a ∈ l → b ∈ l → f a = f b → a = b
 | [], _, a, b, ha, _, _ => by simp at ha
 | c :: l, h, a, b, ha, hb, e => by
  rw [List.map_cons, List.nodup_cons] at h
  rcases List.mem_cons.1 ha with rfl | ha1
  ·rcases List.mem_cons.1 hb with rfl | hb1
   ·rfl
   ·exact (h.1 (List.mem_map.2 ⟨b, hb1, e.symm⟩)).elim
  ·rcases List.mem_cons.1 hb with rfl | hb1
   ·exact (h.1 (List.mem_map.2 ⟨a, ha1, e⟩)).elim
   ·exact ygE h.2 ha1 hb1 e
theorem ynr {β : Type} {l1 l2 : List (ByteArray × β)} (h : l1.Perm l2) (hn : (l2.map (·.1)).Nodup) (x : ByteArray) : (l1.find? fun p => decide (p.1 = x)) = l2.find? fun p => decide (p.1 = x) := by
 cases h2 : l2.find? fun p => decide (p.1 = x) with
 | none =>
  rw [List.find?_eq_none] at h2 ⊢
  exact fun p hp => h2 p (h.mem_iff.1 hp)
 | some y =>
  have hy := List.find?_some h2
  have hym := List.mem_of_find?_eq_some h2
  cases h1 : l1.find? fun p => decide (p.1 = x) with
  | none =>
   rw [List.find?_eq_none] at h1
   exact absurd hy (h1 y (h.mem_iff.2 hym))
  | some z =>
   have hz := List.find?_some h1
   have hzm := h.mem_iff.1 (List.mem_of_find?_eq_some h1)
   simp only [decide_eq_true_eq] at hy hz
   rw [ygE hn hzm hym (hz.trans hy.symm)]
end Go.Aw

namespace Go.Aw
open Go Go.ChangeShapes Go.WideShapes Go.ChangeAt Go.WideMaps Go.WideElems Go.RowKit
def ybX : List (List UInt8 × Int) := ybp.map fun p => (p.1.data.toList, p.2)
def wdB (p : List UInt8 × Int) : ByteArray × Int := (⟨p.1.toArray⟩, p.2)
theorem yeC : ybX.map wdB = ybp := by
 unfold ybX
 rw [List.map_map]
 conv => rhs; rw [← List.map_id ybp]
 refine List.map_congr_left fun p _ => ?_
 simp [wdB]
theorem yjB : (ybp.map (·.1)).Nodup := by decide +kernel
def wdO (l : List (List UInt8 × Int)) (h : l.Perm ybX) : WdO where
 l := l.map wdB
 find := fun x => by
  rw [ynr (h.map wdB) (by rw [yeC]; exact yjB), yeC]
  rfl
def yd5 {H : Type} : DataW H → Int
 | .lit (.int _ a) => a
 | _ => 0
def ybg {H : Type} (p : List UInt8 × Int) : Lit × DataW H := (.string p.1, .lit (.int .i64 p.2))
section
variable {H : Type} {enc' : TypeId × Value → H} {P : Program} {w : World} {base : Nat} {sp : Nat → Bool} {held : Bool} {S : Nat → Nat → Prop} {t k e : TypeId} {fuel : Nat} {cs : List Value} {ps : List MemPlace}
theorem ylc (ht : P.underlying t = some (.map k e)) (hks : P.underlying k = some .string) (he : P.underlying e = some (.int .i64)) {names : List (List UInt8 × Int)}
  (h : DataW.trod enc' P w base sp held fuel t cs = some (.map (names.map ybg), ps)) (hp : names.Perm ybX) :
  ∃ (b : Nat) (s : WdO), cs = [.map (some b)] ∧ RP w.heap.size S w (.map (wdK s) (wdV s)) (.map (some b)) := by
 rcases WideElems.open_map ht h with ⟨_, hx⟩ | ⟨b, es, clock, n, rfl, rfl, hb, _, F, hx⟩
 ·cases hx
 simp only [Prod.mk.injEq, DataW.map.injEq] at hx
 have hperm := YF (es.toList.map (rg P k (elemAt enc' P w base sp held n e)))
 rw [← hx.1] at hperm
 have hl : ((es.toList.map (rg P k (elemAt enc' P w base sp held n e))).map fun y => (ycf y.1, yd5 y.2)).Perm ybX := by
  have h2 := (hperm.map fun y : Lit × DataW H => (ycf y.1, yd5 y.2)).symm
  have e1 : ((names.map (ybg (H := H))).map fun y : Lit × DataW H => (ycf y.1, yd5 y.2)) = names := by
   rw [List.map_map]
   conv => rhs; rw [← List.map_id names]
   refine List.map_congr_left fun p _ => ?_
   simp [ybg, ycf, yd5]
  rw [e1] at h2
  exact h2.trans hp
 refine ⟨b, wdO _ hl, rfl, ?_⟩
 have hent : ∀ x, x ∈ es.toList → ∃ (s : ByteArray) (c : Int), x.key = .string s ∧ x.val = .int .i64 c ∧ wdB (ycf (rg P k (elemAt enc' P w base sp held n e) x).1, yd5 (rg P k (elemAt enc' P w base sp held n e) x).2) = (s, c) := by
  intro x hxm
  obtain ⟨y, hy⟩ := F.reads x hxm
  have hrg : rg P k (elemAt enc' P w base sp held n e) x = y := rg_of hy
  have hmem : y ∈ names.map (ybg (H := H)) := by
   have : y ∈ es.toList.map (rg P k (elemAt enc' P w base sp held n e)) := List.mem_map.2 ⟨x, hxm, hrg⟩
   exact hperm.mem_iff.2 this
  obtain ⟨s, _, hs⟩ := List.mem_map.1 hmem
  subst hs
  have hkey := rd_key hy
  obtain ⟨z, hz, hz2⟩ := rd_val hy
  rw [keyOf_string hks] at hkey
  have hk2 : ∃ s' : ByteArray, x.key = .string s' ∧ s'.data.toList = s.1 := by
   unfold mapKey at hkey
   rw [hks] at hkey
   split at hkey <;> simp_all [ybg]
  obtain ⟨s', h1, h2⟩ := hk2
  unfold elemAt at hz
  split at hz
  ·rename_i hfm
   obtain ⟨c, hcs, hz3, _⟩ := DataW.trod_int he hz
   rw [hz3] at hz2
   simp only [ybg, DataW.lit.injEq, Lit.int.injEq, true_and] at hz2
   refine ⟨s', s.2, h1, ?_, ?_⟩
   ·cases hv : x.val with
    | agg cs => rw [hv] at hfm; simp [Value.formed, he] at hfm
    | tuple cs => rw [hv] at hfm; simp [Value.formed] at hfm
    | _ => rw [hv] at hcs; simp [Value.cells] at hcs <;> first | (rw [hcs.1, hcs.2]; rw [hz2]) | (rw [hcs, hz2]) | simp [hcs, hz2]
   ·rw [hrg]
    simp [ybg, ycf, yd5, wdB, ← h2]
  ·cases hz
 have hblt : b < w.heap.size := by
  by_cases hlt : b < w.heap.size
  ·exact hlt
  ·rw [Array.getElem?_eq_none (by omega)] at hb; cases hb
 refine RP.map (es := es.toList) (clock := clock) hblt (by rw [hb]) (by simp [wdK, wdO]) (by simp [wdV, wdO]) (fun i x en hx hen => ?_) (fun i x en hx hen => ?_)
 ·obtain ⟨s, c, h1, _, h3⟩ := hent en (List.mem_of_getElem? hen)
  simp only [wdK, wdO, List.map_map, List.getElem?_map, hen, Option.map_some, Option.some.injEq] at hx
  subst hx
  simp only [Function.comp]
  rw [h3, h1]; exact .str
 ·obtain ⟨s, c, _, h2, h3⟩ := hent en (List.mem_of_getElem? hen)
  simp only [wdV, wdO, List.map_map, List.getElem?_map, hen, Option.map_some, Option.some.injEq] at hx
  subst hx
  simp only [Function.comp]
  rw [h3, h2]; exact .int
end
end Go.Aw

namespace Go.Aw
open Go Go.ChangeShapes Go.WideShapes Go.ChangeAt Go.WideMaps Go.WideElems Go.RowKit
section
variable {H : Type} {enc' : TypeId × Value → H} {P : Program} {w : World} {base : Nat} {spare : Nat → Bool} {held : Bool} {tD tK ti tn ts : TypeId} {S : Nat → Nat → Prop}
/-- The value itself, where its type is a slice. -/
theorem yjl {r : Reach} {b0 : Nat} {t e : TypeId} {v u : Value} (ht : P.underlying t = some (.slice e)) (hok : Value.okWide P w r b0 t v) (h : v.cells.toList = [u]) : v = u := by
 obtain ⟨a, len, cap, rfl⟩ := okWide_slice ht hok
 simpa [Value.cells] using h
end
end Go.Aw

namespace Go.Aw
open Go
end Go.Aw

namespace Go.Aw
open Go Go.ChangeShapes Go.WideShapes Go.ChangeAt Go.WideMaps Go.WideElems Go.RowKit
section
variable {H : Type} {enc' : TypeId × Value → H} {P : Program} {w : World} {base : Nat} {spare : Nat → Bool} {held : Bool} {t e : TypeId} {S : Nat → Nat → Prop}
/-- A list whose elements are one cell each. -/
theorem ym2 {α : Type} (f : α → PV) (g : α → Value) (Q : α → Prop) (hf : ∀ a, (f a).cells = [f a]) (hg : ∀ a, (g a).oneCell' = true) (hfg : ∀ (a : α), RP w.heap.size S w (f a) (g a)) (ht : P.underlying t = some (.slice e)) (hc : P.cellsOf e = 1)
  (he : ∀ (fuel : Nat) (cs : List Value) (x : DataW H × List MemPlace), DataW.trod enc' P w base spare held fuel e cs = some x → ∃ a, cs = [g a] ∧ Q a) {fuel : Nat} {cs : List Value} {x : DataW H × List MemPlace} (h : DataW.trod enc' P w base spare held fuel t cs = some x) :
  ∃ (l : List α) (v : Value), cs = [v] ∧ RP w.heap.size S w (.slice (l.map f)) v ∧ (∀ a, a ∈ l → Q a) ∧ (l.length = 0 ∨ ∃ el sp, x.1 = .slice el sp ∧ el.length = l.length) := by
 rcases DataW.trod_slice ht h with ⟨hv, _⟩ | ⟨a, len, cap, elems, rest, m', rfl, hv, hx, hb, hlc, hcm, hel, hes, _⟩
 ·exact ⟨[], _, hv, .empty, fun a ha => by simp at ha, .inl rfl⟩
 ·rw [hc] at hes
  have hex : ∀ i, i < len → ∃ b : α, (∀ r, r < 1 → w.cell? ((a.add (i * 1)).add r) = ([g b] : List Value)[r]?) ∧ Q b := by
   intro i hi
   have h1 := hes i hi
   have h2 : elems[i]? = some elems[i] := by simp [hel, hi]
   rw [h2] at h1
   obtain ⟨cs', hcc, htt⟩ := Option.bind_eq_some_iff.1 h1
   obtain ⟨_, _, hc2⟩ := World.cells?_some hcc
   obtain ⟨b, hb1, hb2⟩ := he m' cs' _ htt
   subst hb1
   exact ⟨b, hc2, hb2⟩
  obtain ⟨l, hll, hlq⟩ := ybH len hex
  refine ⟨l, _, hv, ?_, fun b hbm => ?_, .inr ⟨_, _, by rw [hx], by rw [List.length_map, hel, hll]⟩⟩
  ·by_cases hlen0 : len = 0
   ·subst hlen0
    have : l = [] := List.eq_nil_of_length_eq_zero hll
    subst this
    exact .empty
   have hblk : a.block < w.heap.size := by
    obtain ⟨d, h1, _⟩ := hex 0 (by omega)
    have h2 := h1 0 (by omega)
    rw [Nat.zero_mul, Addr.add, if_pos rfl, Addr.add, if_pos rfl] at h2
    unfold World.cell? at h2
    by_cases hlt : a.block < w.heap.size
    ·exact hlt
    ·rw [Array.getElem?_eq_none (by omega)] at h2; simp at h2
   refine yej (sz := 1) (by simp [hll]) hlc hblk (by omega) (fun x hx => ?_) (fun q x hx => ?_)
   ·obtain ⟨d, _, rfl⟩ := List.mem_map.1 hx
    rw [hf]; rfl
   ·rw [List.getElem?_map] at hx
    obtain ⟨d, hd, rfl⟩ := Option.map_eq_some_iff.1 hx
    obtain ⟨h1, h2⟩ := hlq q d hd
    refine ⟨[g d], rfl, h1, fun u hu => by rw [List.mem_singleton.1 hu]; exact hg d, fun r y u hy hu => ?_⟩
    rw [hf] at hy
    match r with
    | 0 => simp at hy hu; subst hy hu; exact hfg d
    | r + 1 => simp at hy
  ·obtain ⟨i, hi, e2⟩ := List.getElem_of_mem hbm
   exact (hlq i b (by rw [← e2]; simp)).2
theorem ymd (ht : P.underlying t = some (.slice e)) (he : P.underlying e = some .string) (hc : P.cellsOf e = 1) {fuel : Nat} {cs : List Value} {x : DataW H × List MemPlace} (h : DataW.trod enc' P w base spare held fuel t cs = some x) :
  ∃ (l : List ByteArray) (v : Value), cs = [v] ∧ RP w.heap.size S w (.slice (l.map .str)) v ∧ (l.length = 0 ∨ ∃ el sp, x.1 = .slice el sp ∧ el.length = l.length) := by
 obtain ⟨l, v, h1, h2, _, h3⟩ := ym2 (S := S) PV.str Value.string (fun _ => True) (fun _ => rfl) (fun _ => rfl) (fun _ => .str) ht hc (fun fuel cs x h => by
  obtain ⟨s, h1, _⟩ := DataW.trod_string he h
  exact ⟨s, h1, trivial⟩) h
 exact ⟨l, v, h1, h2, h3⟩
theorem yfZ {p : Nat → Bool} : ∀ {ts : List TypeId} {ds : List (DataW H)} (_ : (DataW.weightsEach P ts ds).all p = true) {j : Nat} {t : TypeId} {d : DataW H} (_ : ts[j]? = some t) (_ : ds[j]? = some d), (d.weights P t).all p = true
 | [], _, _, j, t, d, ht, _ => by simp at ht
 | _ :: _, [], _, j, t, d, _, hd => by simp at hd
 | t0 :: ts, d0 :: ds, h, j, t, d, ht, hd => by
  simp only [DataW.weightsEach, List.all_append, Bool.and_eq_true] at h
  match j with
  | 0 => simp at ht hd; subst ht hd; exact h.1
  | j + 1 => exact yfZ h.2 (j := j) (by simpa using ht) (by simpa using hd)
theorem yo4 {x : DataW H} {n sz : Nat} (h : (x.weights P t).all (· ≤ reachBytes) = true) (ht : P.underlying t = some (.slice e)) (hz : P.bytesOf e = sz) (hn : n = 0 ∨ ∃ el sp, x = .slice el sp ∧ el.length = n) : n * sz ≤ 140737488351232 := by
 rcases hn with rfl | ⟨el, sp, rfl, rfl⟩
 ·simp
 ·rw [DataW.weights.eq_def] at h
  simp only [ht, List.all_cons, Bool.and_eq_true, decide_eq_true_eq] at h
  have h1 := h.1
  rw [hz] at h1
  unfold reachBytes at h1
  have h2 : el.length * sz ≤ (el.length + sp.length) * sz := Nat.mul_le_mul_right _ (Nat.le_add_right _ _)
  omega
end
end Go.Aw
