/- Part of the proof that the statement holds for every input that its row lets in: an own logic of abstract values over the given model, and laws of data and programs; no program is named in it. -/
import Derived.Test.YtigideidmcmfbaaGreatDoorZA3
import Derived.Test.YtigideidmcmfbaaGreatDoorZA2
import Derived.ProofKit
import Derived.LaidMore
import Derived.OpenShut
import Derived.Stop.Joined
import Derived.StringKeys
import Derived.Shelf.SlIter.Sorted
import Derived.Shelf.SlIter.Keys
import Derived.Shelf.SortM.Plain
import Derived.Shelf.SortM.SortNone
import Derived.LaidLaws
set_option linter.unusedSimpArgs false
set_option linter.unusedVariables false
namespace Go.Aw
open Go
mutual
def D.er : D → D
 | .mk k n _ l => .mk k n ⟨#[]⟩ (D.ers l)
def D.ers : List D → List D
 | [] => []
 | d :: l => d.er :: D.ers l
end
theorem D.ers_map : ∀ l : List D, D.ers l = l.map D.er
 | [] => rfl
 | d :: l => by simp [D.ers, D.ers_map l]
theorem D.er_kids (d : D) : d.er.kids = d.kids.map D.er := by cases d; simp [D.er, D.kids, D.ers_map]
theorem D.sub_er : ∀ (p : List Int) (d : D), d.er.sub p = (d.sub p).map D.er
 | [], d => rfl
 | i :: p, d => by
  simp only [D.sub, D.er_kids]
  split
  ·rw [List.getElem?_map]
   cases d.kids[i.toNat]? with
   | none => rfl
   | some k => exact D.sub_er p k
  ·rfl
theorem D.sub_of_er {d e : D} {p : List Int} (h : d.er = e.er) {x : D} (hx : e.sub p = some x) : ∃ y, d.sub p = some y ∧ y.er = x.er := by
 have h1 := D.sub_er p d
 rw [h, D.sub_er p e, hx] at h1
 cases hd : d.sub p with
 | none => rw [hd] at h1; simp at h1
 | some y => rw [hd] at h1; simp at h1; exact ⟨y, rfl, h1.symm⟩
theorem D.er_setText : ∀ (p : List Int) (d : D) (s : ByteArray), (d.setText p s).er = d.er
 | [], .mk k n t l, s => rfl
 | i :: p, .mk k n t l, s => by
  simp only [D.setText]
  cases h : l[i.toNat]? with
  | none => rfl
  | some c =>
   simp only [D.er, D.ers_map, List.map_set, D.er_setText p c s]
   congr 1
   apply List.ext_getElem?
   intro j
   rw [List.getElem?_set]
   split
   ·subst_vars
    obtain ⟨h1, h2⟩ := List.getElem?_eq_some_iff.1 h
    simp [h1, h2]
   ·rfl
theorem z1 : ∀ (d : D), msz d.er = msz d := by
 intro d
 induction d using D.ind with
 | _ k n t l ih =>
  rw [yfF, yfF, D.er_kids]
  show (if l.map D.er = [] then 0 else 1 + mszs (l.map D.er)) = if l = [] then 0 else 1 + mszs l
  have : ∀ l : List D, (∀ d, d ∈ l → msz d.er = msz d) → mszs (l.map D.er) = mszs l := by
   intro l
   induction l with
   | nil => intro _; rfl
   | cons d l ihl => intro h; simp only [List.map_cons, mszs]; rw [h d (by simp), ihl fun x hx => h x (by simp [hx])]
  rw [this l ih]
  simp
theorem yjF (d : D) (p : List Int) (s : ByteArray) : msz (d.setText p s) = msz d := by rw [← z1, D.er_setText, z1]
theorem yik : ∀ {l : List D} {m i : Nat} {x : D}, l[i]? = some x → (lays m l)[i]? = some (lay (m + mszs (l.take i)) x)
 | [], m, i, x, h => by simp at h
 | d :: l, m, 0, x, h => by simp at h; subst h; simp [lays, mszs]
 | d :: l, m, i + 1, x, h => by
  simp only [List.getElem?_cons_succ] at h
  simp only [lays, List.getElem?_cons_succ, List.take_succ_cons, mszs]
  rw [yik h, Nat.add_assoc]
theorem ylW : ∀ {l : List D} {m i : Nat}, l[i]? = none → (lays m l)[i]? = none := by
 intro l m i h
 rw [List.getElem?_eq_none_iff] at h ⊢
 rw [YZ]; exact h
theorem yig : ∀ {l : List D} {m i : Nat} {x y : D}, l[i]? = some x → msz y = msz x → lays m (l.set i y) = (lays m l).set i (lay (m + mszs (l.take i)) y)
 | [], m, i, x, y, h, _ => by simp at h
 | d :: l, m, 0, x, y, h, hs => by
  simp at h; subst h
  simp [lays, mszs, hs]
 | d :: l, m, i + 1, x, y, h, hs => by
  simp only [List.getElem?_cons_succ] at h
  simp only [List.set_cons_succ, lays, List.take_succ_cons, mszs]
  rw [yig h hs, Nat.add_assoc]
theorem yeY : ∀ (p : List Int) (d : D) (m : Nat) (s : ByteArray), (lay m d).setText p s = lay m (d.setText p s)
 | [], .mk k n t l, m, s => rfl
 | i :: p, .mk k n t l, m, s => by
  simp only [lay, AD.setText, D.setText]
  cases h : l[i.toNat]? with
  | none => rw [ylW h]; rfl
  | some c =>
   rw [yik h]
   simp only [lay]
   rw [yeY p c _ s, yig h (yjF c p s)]
theorem yeq : ∀ (p : List Int) (d : D) (m : Nat) {x : D}, d.sub p = some x → ∃ u, (lay m d).sub p = some u ∧ u.dat = x := by
 intro p d m x h
 have := AD.sub_dat p (lay m d)
 rw [ycn, h] at this
 cases hu : (lay m d).sub p with
 | none => rw [hu] at this; simp at this
 | some u => rw [hu] at this; simp at this; exact ⟨u, rfl, this.symm⟩
theorem AD.sub_take {t u : AD} {p : List Int} (h : t.sub p = some u) {k : Nat} {i : Int} (hi : p[k]? = some i) (ob : Nat × Nat) :
  ∃ v c, t.sub (p.take k) = some v ∧ 0 ≤ i ∧ v.kids[i.toNat]? = some c ∧ i < (v.kids.length : Int) ∧ v.kv = .sl v.o 0 v.kids.length ∧ AD.loc ob t (p.take (k + 1)) = (v.o, i.toNat * 4) := by
 have hp : p = p.take k ++ i :: p.drop (k + 1) := by
  have hk := (List.getElem?_eq_some_iff.1 hi).1
  conv => lhs; rw [← List.take_append_drop k p]
  rw [List.drop_eq_getElem_cons hk, (List.getElem?_eq_some_iff.1 hi).2]
 rw [hp, AD.sub_append, Option.bind_eq_some_iff] at h
 obtain ⟨v, hv, h⟩ := h
 simp only [AD.sub] at h
 split at h
 ·rename_i h0
  obtain ⟨c, hc, _⟩ := Option.bind_eq_some_iff.1 h
  have hlt := (List.getElem?_eq_some_iff.1 hc).1
  refine ⟨v, c, hv, h0, hc, by omega, ?_, ?_⟩
  ·cases v with
   | mk k n tx o l =>
    simp only [AD.kids] at hlt
    cases l with
    | nil => simp at hlt
    | cons a l => rfl
  ·rw [yI hi]
   exact AD.loc_snoc _ _ _ _ _ _ hv hc
 ·cases h
theorem AD.loc_load {σ : Store} {t u : AD} {ob : Nat} {p : List Int} (h : HasU σ (Ym ob t)) (hu : t.sub p = some u) :
  ∃ cells rest, σ.objs[(AD.loc (ob, 0) t p).1]? = some (.arr cells) ∧ cells.drop ((AD.loc (ob, 0) t p).2 + 3) = u.kv :: rest := by
 rw [Yk] at h
 obtain ⟨cells, rest, h1, h2⟩ := AD.loc_at p t u ob [] [] h hu
 refine ⟨cells, rest, h1, ?_⟩
 rw [← List.drop_drop]
 simp only [List.length_nil] at h2
 rw [h2, AD.cells_eq]; rfl
theorem ylf {σ : Store} {A B : List (Nat × AObj)} (hn : ((A ++ B).map (·.1)).Nodup) (hl : ∀ q, q ∈ A → q.1 < σ.objs.length) (hB : HasU σ B) : updS σ A = updS σ (A ++ B) := by
 unfold updS
 congr 1
 rw [List.map_append] at hn
 have hd := List.nodup_append.1 hn
 refine (yaW (by rw [List.map_append]; exact hn) (by rw [zt]) (fun q hq => ?_) (fun i hi => ?_)).symm
 ·rcases List.mem_append.1 hq with h | h
  ·exact YJ hd.1 h (hl q h)
  ·rw [zr (fun hm => hd.2.2 _ hm _ (List.mem_map.2 ⟨q, h, rfl⟩) rfl)]
   exact hB q h
 ·rw [List.map_append, List.mem_append, not_or] at hi
  rw [zr hi.1]
theorem yjJ {σ : Store} {A B : List (Nat × AObj)} (hn : ((A ++ B).map (·.1)).Nodup) (hl : ∀ q, q ∈ B → q.1 < σ.objs.length) (hA : HasU σ A) : updS σ B = updS σ (A ++ B) := by
 unfold updS
 congr 1
 rw [List.map_append] at hn
 have hd := List.nodup_append.1 hn
 refine (yaW (by rw [List.map_append]; exact hn) (by rw [zt]) (fun q hq => ?_) (fun i hi => ?_)).symm
 ·rcases List.mem_append.1 hq with h | h
  ·rw [zr (fun hm => hd.2.2 _ (List.mem_map.2 ⟨q, h, rfl⟩) _ hm rfl)]
   exact hA q h
  ·exact YJ hd.2.1 h (hl q h)
 ·rw [List.map_append, List.mem_append, not_or] at hi
  rw [zr hi.2]
theorem yha {ob : Nat} {t : AD} {no nt : Nat} (h : ∀ i, i ∈ (Ym ob t).map (·.1) → i < no) : ∀ q, q ∈ Ym ob t → q.2.clo no nt 0 = true := by
 have hkv : ∀ (u : AD), (∀ q, q ∈ u.arrs → q.1 < no) → AV.clos no nt 0 u.cells = true := by
  intro u hu
  cases u with
  | mk k n tx o l =>
   cases l with
   | nil => rfl
   | cons a l =>
    have := hu (o, .arr ((a :: l).flatMap AD.cells)) (by simp [AD.arrs, Zz])
    simp only [AD.cells, kvOf, AV.clos, AV.clo, Bool.and_true, Bool.true_and, decide_eq_true_eq]
    exact this
 have hrow : ∀ (u : AD), (∀ q, q ∈ u.arrs → q.1 < no) → ∀ q, q ∈ u.arrs → q.2.clo no nt 0 = true := by
  intro u
  induction u using AD.ind with
  | _ k n tx o l ih =>
   intro hu q hq
   rw [AD.arrs, AD.arrss_flat] at hq hu
   rcases List.mem_append.1 hq with hq | hq
   ·cases l with
    | nil => simp [Zz] at hq
    | cons a l =>
     simp only [Zz, List.mem_singleton] at hq
     subst hq
     simp only [AObj.clo, AV.clos_iff]
     intro x hx
     obtain ⟨c, hc, hx⟩ := List.mem_flatMap.1 hx
     exact AV.clos_iff.1 (hkv c fun q hq2 => hu q (List.mem_append_right _ (List.mem_flatMap.2 ⟨c, hc, hq2⟩))) x hx
   ·obtain ⟨c, hc, hq⟩ := List.mem_flatMap.1 hq
    exact ih c hc (fun q hq2 => hu q (List.mem_append_right _ (List.mem_flatMap.2 ⟨c, hc, hq2⟩))) q hq
 intro q hq
 have ht : ∀ q, q ∈ t.arrs → q.1 < no := fun q hq => h q.1 (List.mem_map.2 ⟨q, List.mem_cons_of_mem _ hq, rfl⟩)
 rcases List.mem_cons.1 hq with rfl | hq
 ·exact hkv t ht
 ·exact hrow t ht q hq
theorem D.sub_subs {d : D} {q : Sub × D} (h : q ∈ subs d) : d.sub q.1.p = some q.2 := by
 have one : ∀ (l : List D) (i : Nat) (x : D), l[i]? = some x → ∀ k n t, D.sub (.mk k n t l) [(i : Int)] = some x := by
  intro l i x hx k n t
  simp only [D.sub, D.kids]
  rw [if_pos (by omega), Int.toNat_natCast, hx]; rfl
 obtain ⟨k, n, t, l⟩ := d
 generalize hd : D.mk k n t l = d at *
 have hl : d.kids = l := by rw [← hd]; rfl
 have hone : ∀ (i : Nat) (x : D), l[i]? = some x → d.sub [(i : Int)] = some x := fun i x hx => by rw [← hd]; exact one l i x hx _ _ _
 by_cases h4 : yb d = 4 ∨ yb d = 8
 ·rw [zX h4] at h
  obtain ⟨i, x, hx, rfl⟩ := YL h
  rw [List.getElem?_drop, hl] at hx
  have := hone (1 + i) x hx
  rw [show sub1 i x = (⟨[((1 + i : Nat) : Int)], []⟩, x) by unfold sub1; congr 3; omega]
  exact this
 by_cases h5 : yb d = 5 ∨ yb d = 9
 ·rw [yU h5, List.mem_singleton] at h
  subst h
  have hlen := (yZ d).1 (h5.elim .inl fun h => .inr (.inl h))
  rw [hl] at hlen
  have := hone 2 (d2 d.kids) (by rw [hl]; unfold d2; rw [List.getD_eq_getElem?_getD, List.getElem?_eq_getElem (by omega)]; rfl)
  exact this
 by_cases h6 : yb d = 6
 ·rw [yM h6] at h
  have hlen := (yZ d).2.1 h6
  rw [hl] at hlen
  simp only [List.mem_cons, List.not_mem_nil, or_false] at h
  rcases h with rfl | rfl
  ·exact hone 2 (d2 d.kids) (by rw [hl]; unfold d2; rw [List.getD_eq_getElem?_getD, List.getElem?_eq_getElem (by omega)]; rfl)
  ·exact hone 3 (d.kids.getD 3 dnone) (by rw [hl]; rw [List.getD_eq_getElem?_getD, List.getElem?_eq_getElem (by omega)]; rfl)
 by_cases h7 : yb d = 7
 ·have hlen := (yZ d).1 (.inr (.inr h7))
  rw [hl] at hlen
  rw [zd h7, List.mem_append, List.mem_singleton] at h
  rcases h with h | rfl
  ·obtain ⟨i, x, hx, rfl⟩ := YL h
   have h3 := (yZ d).2.2 h7 x (List.mem_of_getElem? hx)
   have hd1 : l[1]? = some (d1 d.kids) := by rw [hl]; unfold d1; rw [List.getD_eq_getElem?_getD, List.getElem?_eq_getElem (by omega)]; rfl
   have hd2 : x.kids[2]? = some (d2 x.kids) := by unfold d2; rw [List.getD_eq_getElem?_getD, List.getElem?_eq_getElem (by omega)]; rfl
   show d.sub [1, (i : Int), 2] = some (d2 x.kids)
   have e1 := hone 1 _ hd1
   rw [show ([1, (i : Int), 2] : List Int) = [((1 : Nat) : Int)] ++ [(i : Int), 2] from rfl, D.sub_append, e1]
   simp only [Option.bind_some, D.sub]
   rw [if_pos (by omega), Int.toNat_natCast, hx]
   simp only [Option.bind_some]
   rw [if_pos (by decide), show (2 : Int).toNat = 2 from rfl, hd2]; rfl
  ·exact hone 2 (d2 d.kids) (by rw [hl]; unfold d2; rw [List.getD_eq_getElem?_getD, List.getElem?_eq_getElem (by omega)]; rfl)
 by_cases h10 : yb d = 10
 ·rw [Yr h10] at h
  obtain ⟨i, x, hx, rfl⟩ := YL h
  rw [hl] at hx
  exact hone i x hx
 ·exfalso
  have hs : subs d = [] := Yb (by cases shape d <;> omega)
  rw [hs] at h; simp at h
def whrL : List D → Int → Nat → List Int
 | [], n, _ => [1, n]
 | x :: l, n, i => if ((parS x).length : Int) ≤ n then whrL l (n - ((parS x).length : Int)) (i + 1) else [1, (i : Int), 1, n]
def zo (d : D) (n : Int) : List Int :=
 if (yb d == 6) = true then [1] else if (yb d == 7) = true then (if n < ((d1 d.kids).kids.length : Int) then [1, n, 0] else whrL (d1 d.kids).kids (n - ((d1 d.kids).kids.length : Int)) 0) else [1, n]
theorem yjn : ∀ {l : List D} {k : Nat} {x : D} {j : Nat} (i : Nat), l[k]? = some x → j < (parS x).length → whrL l ((((l.take k).map fun x => ((d1 x.kids).kids.length : Int)).sum) + (j : Int)) i = [1, ((i + k : Nat) : Int), 1, (j : Int)]
 | [], k, x, j, i, h, _ => by simp at h
 | y :: l, 0, x, j, i, h, hj => by
  simp at h; subst h
  simp only [whrL, List.take_zero, List.map_nil, List.sum_nil, Int.zero_add, Nat.add_zero]
  rw [if_neg (by omega)]
 | y :: l, k + 1, x, j, i, h, hj => by
  simp only [List.getElem?_cons_succ] at h
  have ih := yjn (i + 1) h hj
  simp only [whrL, List.take_succ_cons, List.map_cons, List.sum_cons]
  have hp : ((parS y).length : Int) = ((d1 y.kids).kids.length : Int) := by unfold parS; rw [List.length_map]
  have hnn : 0 ≤ ((l.take k).map fun x => ((d1 x.kids).kids.length : Int)).sum := by
   generalize l.take k = r
   induction r with
   | nil => simp
   | cons z r ih => simp only [List.map_cons, List.sum_cons]; omega
  rw [if_pos (by rw [hp]; omega), hp, show ((d1 y.kids).kids.length : Int) + ((l.take k).map fun x => ((d1 x.kids).kids.length : Int)).sum + (j : Int) - ((d1 y.kids).kids.length : Int) = ((l.take k).map fun x => ((d1 x.kids).kids.length : Int)).sum + (j : Int) by omega, ih]
  congr 2; omega
theorem ymt {d : D} {ns : List ByteArray} {n : Int} (h : NmOk d ns n) {j : Nat} {x : ByteArray} (hj : ns[j]? = some x) : 1 ≤ (zo d (n + (j : Int))).length ∧ (zo d (n + (j : Int))).length ≤ 4 ∧ ∃ u, d.sub (zo d (n + (j : Int))) = some u ∧ u.text = x := by
 have hone : ∀ (d : D) (i : Nat) (x : D), d.kids[i]? = some x → ∀ p, d.sub ((i : Int) :: p) = x.sub p := by
  intro d i x hx p
  simp only [D.sub]
  rw [if_pos (by omega), Int.toNat_natCast, hx]; rfl
 have hd1 : 1 < d.kids.length → d.kids[1]? = some (d1 d.kids) := fun h => by unfold d1; rw [List.getD_eq_getElem?_getD, List.getElem?_eq_getElem h]; rfl
 have h1 : ∀ p, 1 < d.kids.length → d.sub (1 :: p) = (d1 d.kids).sub p := fun p h => hone d 1 _ (hd1 h) p
 cases h with
 | own hk =>
  rw [Int.zero_add]
  rcases hk with hk | hk | hk | hk
  ·have hl := (yZ d).1 (.inl hk)
   have ho : ownS d = (d1 d.kids).kids.map D.text := by unfold ownS; rw [hk]; rfl
   rw [ho, List.getElem?_map] at hj
   obtain ⟨u, hu, rfl⟩ := Option.map_eq_some_iff.1 hj
   have hw : zo d (j : Int) = [1, (j : Int)] := by unfold zo; rw [hk]; rfl
   rw [hw]
   exact ⟨by simp, by simp, u, by rw [h1 _ (by omega), hone _ _ _ hu]; rfl, rfl⟩
  ·have hl := (yZ d).1 (.inr (.inl hk))
   have ho : ownS d = (d1 d.kids).kids.map D.text := by unfold ownS; rw [hk]; rfl
   rw [ho, List.getElem?_map] at hj
   obtain ⟨u, hu, rfl⟩ := Option.map_eq_some_iff.1 hj
   have hw : zo d (j : Int) = [1, (j : Int)] := by unfold zo; rw [hk]; rfl
   rw [hw]
   exact ⟨by simp, by simp, u, by rw [h1 _ (by omega), hone _ _ _ hu]; rfl, rfl⟩
  ·have hl := (yZ d).2.1 hk
   have ho : ownS d = [(d1 d.kids).text] := by unfold ownS; rw [hk]; rfl
   rw [ho] at hj
   have hw : zo d (j : Int) = [1] := by unfold zo; rw [hk]; rfl
   rw [hw]
   refine ⟨by simp, by simp, d1 d.kids, by rw [h1 _ (by omega)]; rfl, ?_⟩
   match j, hj with
   | 0, hj => simpa using hj
  ·have hl := (yZ d).1 (.inr (.inr hk))
   have ho : ownS d = (d1 d.kids).kids.map fun x => x.head.text := by unfold ownS; rw [hk]; rfl
   rw [ho, List.getElem?_map] at hj
   obtain ⟨y, hy, rfl⟩ := Option.map_eq_some_iff.1 hj
   have h3 := (yZ d).2.2 hk y (List.mem_of_getElem? hy)
   have hjl := (List.getElem?_eq_some_iff.1 hy).1
   have hw : zo d (j : Int) = [1, (j : Int), 0] := by
    unfold zo
    rw [hk, if_neg (by decide), if_pos (by decide), if_pos (by omega)]
   rw [hw]
   have hy0 : y.kids[0]? = some (y.kids[0]'(by omega)) := by simp
   refine ⟨by simp, by simp, y.head, ?_, rfl⟩
   rw [h1 _ (by omega), hone _ _ _ hy, show ([0] : List Int) = ((0 : Nat) : Int) :: [] from rfl, hone _ _ _ hy0, ybj hy0]; rfl
 | @par hk k y hy =>
  have hl := (yZ d).1 (.inr (.inr hk))
  have h3 := (yZ d).2.2 hk y (List.mem_of_getElem? hy)
  have hjl : j < (parS y).length := (List.getElem?_eq_some_iff.1 hj).1
  have hw : zo d (yR (d1 d.kids).kids k + (j : Int)) = [1, (k : Int), 1, (j : Int)] := by
   have h4 := Y3 (d1 d.kids).kids k (Nat.le_of_lt (List.getElem?_eq_some_iff.1 hy).1)
   have hnn : 0 ≤ (((d1 d.kids).kids.take k).map fun x => ((d1 x.kids).kids.length : Int)).sum := by
    generalize (d1 d.kids).kids.take k = r
    induction r with
    | nil => simp
    | cons z r ih => simp only [List.map_cons, List.sum_cons]; omega
   unfold zo
   rw [hk, if_neg (by decide), if_pos (by decide), if_neg (by unfold yR; omega)]
   have := yjn 0 hy hjl
   rw [Nat.zero_add] at this
   rw [← this]
   congr 1
   unfold yR; omega
  rw [hw]
  have hy1 : y.kids[1]? = some (d1 y.kids) := by unfold d1; rw [List.getD_eq_getElem?_getD, List.getElem?_eq_getElem (by omega)]; rfl
  unfold parS at hj
  rw [List.getElem?_map] at hj
  obtain ⟨u, hu, rfl⟩ := Option.map_eq_some_iff.1 hj
  refine ⟨by simp, by simp, u, ?_, rfl⟩
  rw [h1 _ (by omega), hone _ _ _ hy, show ([1, (j : Int)] : List Int) = ((1 : Nat) : Int) :: [(j : Int)] from rfl, hone _ _ _ hy1, hone _ _ _ hu]; rfl
section
variable {St : Type} (to : List Int → Int → ByteArray → St → ByteArray × St)
def yci (d : D) (p : List Int) (n : Int) (acc : List ByteArray × (D × St)) (q : ByteArray × Nat) : List ByteArray × (D × St) :=
 (acc.1 ++ [(to p (n + (q.2 : Int)) q.1 acc.2.2).1], (acc.2.1.setText (p ++ zo d (n + (q.2 : Int))) (to p (n + (q.2 : Int)) q.1 acc.2.2).1, (to p (n + (q.2 : Int)) q.1 acc.2.2).2))
def nmK (d : D) (p : List Int) (ns : List ByteArray) (n : Int) (s : D × St) (k : Nat) : List ByteArray × (D × St) := ((ns.take k).zipIdx).foldl (yci to d p n) ([], s)
def namR (d : D) (p : List Int) (ns : List ByteArray) (n : Int) (s : D × St) : List ByteArray × (D × St) := nmK to d p ns n s ns.length
def varR (_d : D) (p : List Int) (b : Option ByteArray) (s : D × St) : D × St := match b with
 | some x => (s.1.setText p x, s.2)
 | none => s
theorem yjc (d : D) (p : List Int) (ns : List ByteArray) (n : Int) (s : D × St) : nmK to d p ns n s 0 = ([], s) := rfl
theorem yc2 {d : D} {p : List Int} {ns : List ByteArray} {n : Int} {s : D × St} {k : Nat} {x : ByteArray} (h : ns[k]? = some x) : nmK to d p ns n s (k + 1) = yci to d p n (nmK to d p ns n s k) (x, k) := by
 have hk := (List.getElem?_eq_some_iff.1 h).1
 unfold nmK
 rw [yI h, List.zipIdx_append, List.foldl_append]
 have e : ([x] : List ByteArray).zipIdx (0 + (ns.take k).length) = [(x, k)] := by simp; omega
 rw [e]; rfl
theorem ykJ (d : D) (p : List Int) (ns : List ByteArray) (n : Int) (s : D × St) : ∀ k, k ≤ ns.length → (nmK to d p ns n s k).1.length = k := by
 intro k
 induction k with
 | zero => intro _; rfl
 | succ k ih =>
  intro hk
  have hx : ns[k]? = some (ns[k]'(by omega)) := by simp
  rw [yc2 to hx, yci]
  simp [ih (by omega)]
theorem yf0 (d : D) (p : List Int) (ns : List ByteArray) (n : Int) (s : D × St) : ∀ k, k ≤ ns.length → (nmK to d p ns n s k).2.1.er = s.1.er := by
 intro k
 induction k with
 | zero => intro _; rfl
 | succ k ih =>
  intro hk
  have hx : ns[k]? = some (ns[k]'(by omega)) := by simp
  rw [yc2 to hx, yci]
  simp only [D.er_setText]
  exact ih (by omega)
theorem ykI (d : D) (p : List Int) (ns : List ByteArray) (n : Int) (s : D × St) (GT : Nat → St → Prop) (hg : ∀ p i x m s, GT m s → GT (m + 1) (to p i x s).2) (m : Nat) (h : GT m s.2) : ∀ k, k ≤ ns.length → GT (m + k) (nmK to d p ns n s k).2.2 := by
 intro k
 induction k with
 | zero => intro _; exact h
 | succ k ih =>
  intro hk
  have hx : ns[k]? = some (ns[k]'(by omega)) := by simp
  rw [yc2 to hx, yci]
  exact hg _ _ _ _ _ (ih (by omega))
end
theorem yej : ∀ {p : List Int} {e d : D}, e.size ≤ 100000000 → e.sub p = some d → ∀ j, j ∈ p → 0 ≤ j ∧ j ≤ 1000000000
 | [], e, d, _, _, j, hj => by simp at hj
 | i :: p, e, d, he, h, j, hj => by
  simp only [D.sub] at h
  split at h
  ·rename_i hi
   cases hx : e.kids[i.toNat]? with
   | none => rw [hx] at h; cases h
   | some x =>
    rw [hx] at h
    simp only [Option.bind_some] at h
    have hm := List.mem_of_getElem? hx
    have h1 := D.size_kid_lt hm
    have h2 := (List.getElem?_eq_some_iff.1 hx).1
    have h3 := D.kids_length_lt e
    rcases List.mem_cons.1 hj with rfl | hj
    ·exact ⟨hi, by omega⟩
    ·exact yej (by omega) h j hj
  ·cases h
structure ToH (P : Program) (G : List (Nat × PV)) {St : Type} (ms : St → List (Nat × AObj)) (mk : List Nat) (X : List (Nat × AObj)) (tf : FuncId) (tc : List AV) (to : List Int → Int → ByteArray → St → ByteArray × St) (GT : Nat → St → Prop) : Prop where
 hmk : ∀ s, (ms s).map (·.1) = mk
 hnd : mk.Nodup
 hX : ∀ q, q ∈ X → q.1 ∉ mk
 ct : Callable P tf
 nlt : AV.noLs tc = true
 hcl : ∀ s no nt, (∀ i, i ∈ mk → i < no) → ∀ q, q ∈ ms s → q.2.clo no nt 0 = true
 gt : ∀ p i x m s, GT m s → GT (m + 1) (to p i x s).2
 ht : ∀ p i x m s σ, p.length ≤ 400000000 → (∀ j, j ∈ p → 0 ≤ j ∧ j ≤ 1000000000) → 0 ≤ i → i ≤ 1000000000 → GT m s → m + 1 ≤ 1000000000 → σ.gl = G → HasU σ (ms s) → HasU σ X →
  ACalls P tf ([.pv (wPV p), .pv (.int .i64 i), .pv (.str x)] ++ tc) σ fun r σ' => r = .pv (.str (to p i x s).1) ∧ σ' = updS σ (ms (to p i x s).2)
def UR {St : Type} (ob m0 : Nat) (ms : St → List (Nat × AObj)) (s : D × St) : List (Nat × AObj) := Ym ob (lay m0 s.1) ++ ms s.2
theorem ybX {St : Type} {ob m0 : Nat} {ms : St → List (Nat × AObj)} {mk : List Nat} (h : ∀ s, (ms s).map (·.1) = mk) (s : D × St) : (UR ob m0 ms s).map (·.1) = ob :: List.range' m0 (msz s.1) ++ mk := by
 unfold UR
 rw [List.map_append, h, ZZ, YM]
section
variable {St : Type} {ob m0 : Nat} {ms : St → List (Nat × AObj)} {mk : List Nat} {σ : Store} {s : D × St}
theorem ygo (h : HasU σ (UR ob m0 ms s)) : HasU σ (Ym ob (lay m0 s.1)) := fun q hq => h q (List.mem_append_left _ hq)
theorem ye5 (hmk : ∀ s, (ms s).map (·.1) = mk) (hn : (ob :: List.range' m0 (msz s.1) ++ mk).Nodup) (t : D) (st : St) (he : t.er = s.1.er) : ((UR ob m0 ms (t, st)).map (·.1)).Nodup := by
 rw [ybX hmk]
 show (ob :: List.range' m0 (msz t) ++ mk).Nodup
 rw [← z1, he, z1]; exact hn
theorem ypd (hmk : ∀ s, (ms s).map (·.1) = mk) (h : HasU σ (UR ob m0 ms s)) (t : D) (st : St) (he : t.er = s.1.er) : ∀ q, q ∈ UR ob m0 ms (t, st) → q.1 < σ.objs.length := by
 intro q hq
 have hm : q.1 ∈ (UR ob m0 ms (t, st)).map (·.1) := List.mem_map.2 ⟨q, hq, rfl⟩
 have e : (UR ob m0 ms (t, st)).map (·.1) = (UR ob m0 ms s).map (·.1) := by
  rw [ybX hmk, ybX hmk]
  show ob :: List.range' m0 (msz t) ++ mk = _
  rw [← z1, he, z1]
 rw [e] at hm
 obtain ⟨q', h', e'⟩ := List.mem_map.1 hm
 rw [← e']; exact h.lt h'
theorem ynU (hmk : ∀ s, (ms s).map (·.1) = mk) (hn : (ob :: List.range' m0 (msz s.1) ++ mk).Nodup) (h : HasU σ (UR ob m0 ms s)) (st : St) : updS σ (ms st) = updS σ (UR ob m0 ms (s.1, st)) :=
 yjJ (ye5 hmk hn s.1 st rfl) (fun q hq => ypd hmk h s.1 st rfl q (List.mem_append_right _ hq)) (fun q hq => h q (List.mem_append_left _ hq))
theorem ypX (hmk : ∀ s, (ms s).map (·.1) = mk) (hn : (ob :: List.range' m0 (msz s.1) ++ mk).Nodup) (h : HasU σ (UR ob m0 ms s)) (t : D) (he : t.er = s.1.er) : updS σ (Ym ob (lay m0 t)) = updS σ (UR ob m0 ms (t, s.2)) :=
 ylf (ye5 hmk hn t s.2 he) (fun q hq => ypd hmk h t s.2 he q (List.mem_append_left _ hq)) (fun q hq => h q (List.mem_append_right _ hq))
end
section
variable {P : Program} {ty : TyT} {σ0 : Store} {N : Nat} {s : St} {o : Oper} {ops : Array Oper} {os : List Oper} {K : St → Prop} {σ : Store}
theorem yd2 {Sg : Type} {ob m0 : Nat} {ms : Sg → List (Nat × AObj)} {mk : List Nat} {x : D × Sg} {p : List Int} {u : D} {b : ByteArray} (hmk : ∀ s, (ms s).map (·.1) = mk) (hn : (ob :: List.range' m0 (msz x.1) ++ mk).Nodup) (hU : HasU s.σ (UR ob m0 ms x)) (hu : x.1.sub p = some u)
  (hty : TyOk P ty) {t : TypeId} {pp y : Operand} {ti : TyI} (hg : o.guard = none) (ho : o.op = .store t pp y) (hdst : o.dst = none) (hti : ty t = some ti) (h1 : ti.size = 1)
  (hp : ev s pp = .ptr (AD.loc (ob, 0) (lay m0 x.1) p).1 ((AD.loc (ob, 0) (lay m0 x.1) p).2 + 2)) (hy : ev s y = .pv (.str b)) (k : AOpsL P σ0 N ops os K ⟨s.T, s.L, updS s.σ (UR ob m0 ms (x.1.setText p b, x.2))⟩) : AOpsL P σ0 N ops (o :: os) K s := by
 obtain ⟨v, hv, _⟩ := yeq p x.1 m0 hu
 have hUt := ygo hU
 have hnt := ye5 hmk hn x.1 x.2 rfl
 unfold UR at hnt
 rw [List.map_append] at hnt
 have hw := AD.write b p (lay m0 x.1) v ob [] [] (by rw [← Yk]; exact hUt) (by rw [← Yk]; exact (List.nodup_append.1 hnt).1) hv
 obtain ⟨cells, k1, k2, k3⟩ := hw
 simp only [List.length_nil] at k1 k2 k3
 refine YC hg (yaT hty (i := (AD.loc (ob, 0) (lay m0 x.1) p).1) (off := (AD.loc (ob, 0) (lay m0 x.1) p).2 + 2) (cs := cells) (ds := [.pv (.str b)]) ho hp hti k1 (by rw [hy]; rfl) rfl (by rw [h1]; rfl) (by simp; omega) (by rw [hdst]; rfl) ?_)
 rw [hdst]
 simp only [St.put]
 rw [k3, ← Yk, yeY, ypX hmk hn hU _ (D.er_setText _ _ _)]
 exact k
end
theorem ykZ {d : D} {ns : List ByteArray} {n : Int} (h : NmOk d ns n) : 0 ≤ n ∧ n + (ns.length : Int) ≤ 2 * (d.size : Int) := by
 cases h with
 | own hk => have := yau d; omega
 | @par hk k x hx =>
  have hl := (yZ d).1 (.inr (.inr hk))
  have h1 := Y3 (d1 d.kids).kids k (Nat.le_of_lt (List.getElem?_eq_some_iff.1 hx).1)
  have h2 := Y3 (d1 d.kids).kids (k + 1) (by have := (List.getElem?_eq_some_iff.1 hx).1; omega)
  have h3 := Z2 hx
  have hm : d1 d.kids ∈ d.kids := Yw (n := 1) (by omega)
  have h4 := D.size_kid_lt hm
  have h5 := D.kids_length_lt (d1 d.kids)
  have h6 := D.size_kids (d1 d.kids)
  omega
theorem ymP {g : List (Nat × PV)} {tk : List Tok} {σ : Store} {U V : List (Nat × AObj)} {ks : List Nat} (hu : U.map (·.1) = ks) (hv : V.map (·.1) = ks) (hn : ks.Nodup) : updS ⟨g, (updS σ U).objs, tk⟩ V = updS ⟨g, σ.objs, tk⟩ V := by
 unfold updS
 simp only
 rw [yaR (by rw [hv]; exact hn) (by rw [hu, hv]; exact fun _ h => h)]
structure RnH (P : Program) (G : List (Nat × PV)) {Sg : Type} (atf : FuncId) (e : D) (ob m0 oto oat : Nat) (XR : List (Nat × AObj)) (ms : Sg → List (Nat × AObj)) (mk : List Nat) (X : List (Nat × AObj)) (tf : FuncId) (tc : List AV) (to : List Int → Int → ByteArray → Sg → ByteArray × Sg) (GT : Nat → Sg → Prop) : Prop where
 T : ToH P G ms mk X tf tc to GT
 hn : (ob :: List.range' m0 (msz e) ++ mk).Nodup
 hX : ∀ q, q ∈ XR → q.1 ∉ ob :: List.range' m0 (msz e) ++ mk
 hXX : ∀ q, q ∈ X → q ∈ XR
 hto : (oto, .box [.func (.func tf) tc]) ∈ XR
 hat : (oat, .box [.func (.func atf) [.ptr ob 0]]) ∈ XR
 hes : e.size ≤ 100000000
section
variable {P : Program} {G : List (Nat × PV)} {Sg : Type} {atf : FuncId} {e : D} {ob m0 oto oat : Nat} {XR : List (Nat × AObj)} {ms : Sg → List (Nat × AObj)} {mk : List Nat} {X : List (Nat × AObj)} {tf : FuncId} {tc : List AV} {to : List Int → Int → ByteArray → Sg → ByteArray × Sg} {GT : Nat → Sg → Prop} (H : RnH P G atf e ob m0 oto oat XR ms mk X tf tc to GT)
include H
theorem RnH.keys {t : D} (he : t.er = e.er) (st : Sg) : (UR ob m0 ms (t, st)).map (·.1) = ob :: List.range' m0 (msz e) ++ mk := by
 rw [ybX H.T.hmk]
 show ob :: List.range' m0 (msz t) ++ mk = _
 rw [← z1, he, z1]
theorem RnH.nd {t : D} (he : t.er = e.er) : (ob :: List.range' m0 (msz t) ++ mk).Nodup := by rw [← z1, he, z1]; exact H.hn
theorem RnH.keys' {s : D × Sg} (he : s.1.er = e.er) : (UR ob m0 ms s).map (·.1) = ob :: List.range' m0 (msz e) ++ mk := H.keys he s.2
theorem RnH.lt {σ : Store} {s : D × Sg} (he : s.1.er = e.er) (h : HasU σ (UR ob m0 ms s)) {i : Nat} (hi : i ∈ ob :: List.range' m0 (msz e) ++ mk) : i < σ.objs.length := by
 rw [← H.keys' he] at hi
 obtain ⟨q, hq, rfl⟩ := List.mem_map.1 hi
 exact h.lt hq
theorem RnH.has {σ : Store} {s s' : D × Sg} (he : s.1.er = e.er) (he' : s'.1.er = e.er) (h : HasU σ (UR ob m0 ms s)) : HasU (updS σ (UR ob m0 ms s')) (UR ob m0 ms s') :=
 ycN (by rw [H.keys' he']; exact H.hn) (fun q hq => H.lt he h (by rw [← H.keys' he']; exact List.mem_map.2 ⟨q, hq, rfl⟩))
theorem RnH.ne {σ : Store} {s' : D × Sg} (he' : s'.1.er = e.er) {i : Nat} (h : i ∉ ob :: List.range' m0 (msz e) ++ mk) : (updS σ (UR ob m0 ms s')).objs[i]? = σ.objs[i]? := yb4 (by rw [H.keys' he']; exact h)
theorem RnH.hasX {σ : Store} {s' : D × Sg} (he' : s'.1.er = e.er) (h : HasU σ XR) : HasU (updS σ (UR ob m0 ms s')) XR := fun q hq => by
 rw [H.ne he' (H.hX q hq)]; exact h q hq
theorem RnH.clo {s : D × Sg} (he : s.1.er = e.er) {no nt : Nat} (h : ∀ i, i ∈ ob :: List.range' m0 (msz e) ++ mk → i < no) : ∀ q, q ∈ UR ob m0 ms s → q.2.clo no nt 0 = true := by
 have hk := H.keys' he
 unfold UR at hk
 rw [List.map_append, H.T.hmk] at hk
 have hk := List.append_cancel_right hk
 intro q hq
 rcases List.mem_append.1 hq with hq | hq
 ·refine yha (fun i hi => h i ?_) q hq
  rw [hk] at hi; exact List.mem_append_left _ hi
 ·exact H.T.hcl _ _ _ (fun i hi => h i (List.mem_append_right _ hi)) q hq
theorem RnH.afterTo {σ : Store} {s0 s : D × Sg} (he : s0.1.er = e.er) (hs : s.1.er = e.er) (h : HasU σ (UR ob m0 ms s0)) (st : Sg) : updS (updS σ (UR ob m0 ms s)) (ms st) = updS σ (UR ob m0 ms (s.1, st)) := by
 rw [ynU H.T.hmk (H.nd hs) (H.has he hs h) st]
 exact yfY (H.keys' hs) (H.keys hs st) H.hn
end
open Classical in
noncomputable def UE {Sg : Type} (e : D) (ob m0 : Nat) (ms : Sg → List (Nat × AObj)) (s : D × Sg) : List (Nat × AObj) := if s.1.er = e.er then UR ob m0 ms s else UR ob m0 ms (e, s.2)
theorem yd7 {Sg : Type} {e : D} {ob m0 : Nat} {ms : Sg → List (Nat × AObj)} {s : D × Sg} (h : s.1.er = e.er) : UE e ob m0 ms s = UR ob m0 ms s := by unfold UE; rw [if_pos h]
def zZ {Sg : Type} (to : List Int → Int → ByteArray → Sg → ByteArray × Sg) (e : D) (st : Sg) : D × Sg := wk (namR to) varR e [] [] (e, st)
section
variable {P : Program} {G : List (Nat × PV)} {Sg : Type} {atf nf vf : FuncId} {e : D} {ob m0 oto oat ow : Nat} {XR : List (Nat × AObj)} {ms : Sg → List (Nat × AObj)} {mk : List Nat} {X : List (Nat × AObj)} {tf : FuncId} {tc : List AV} {to : List Int → Int → ByteArray → Sg → ByteArray × Sg} {GT : Nat → Sg → Prop} (H : RnH P G atf e ob m0 oto oat XR ms mk X tf tc to GT)
include H
theorem RnH.walk (hw : (ow, .box [.func (.func nf) [.ptr oto 0, .ptr oat 0], .func (.func vf) [.ptr oat 0]]) ∈ XR) (cn : Callable P nf) (cv : Callable P vf)
  (hn : ∀ (d : D) (p : List Int) (ns : List ByteArray) (n : Int) (m : Nat) (s : D × Sg) (σ : Store), d.size ≤ 100000000 → p.length ≤ 400000000 → s.1.er = e.er → GT m s.2 → m + ns.length ≤ 1000000000 → e.sub p = some d → NmOk d ns n → σ.gl = G → HasU σ (UR ob m0 ms s) → HasU σ XR →
   ACalls P nf [.pv (enc d), .pv (wPV p), .pv (.slice (ns.map .str)), .pv (.int .i64 n), .ptr oto 0, .ptr oat 0] σ fun r σ' => r = .pv (.slice ((namR to d p ns n s).1.map .str)) ∧ σ' = updS σ (UR ob m0 ms (namR to d p ns n s).2))
  (hv : ∀ (d : D) (p : List Int) (s : D × Sg) (σ : Store), d.size ≤ 100000000 → p.length ≤ 400000000 → s.1.er = e.er → e.sub p = some d → σ.gl = G → HasU σ (UR ob m0 ms s) → HasU σ XR → ∀ b : Option ByteArray,
   ACalls P vf [.pv (enc d), .pv (wPV p), .pv ((b.map PV.str).getD (.str ⟨#[]⟩)), .pv (.bool b.isSome), .ptr oat 0] σ fun r σ' => r = .tuple [] ∧ σ' = updS σ (UR ob m0 ms (varR d p b s))) :
  WkH P G PV.str (.str ⟨#[]⟩) (UE e ob m0 ms) (ob :: List.range' m0 (msz e) ++ mk) XR ow nf [.ptr oto 0, .ptr oat 0] vf [.ptr oat 0] (namR to) varR (fun d p => e.sub p = some d) (fun m s => s.1.er = e.er ∧ GT m s.2) := by
 have hvE : ∀ (d : D) (p : List Int) (b : Option ByteArray) (s : D × Sg), s.1.er = e.er → (varR d p b s).1.er = e.er := by
  intro d p b s hs
  cases b with
  | none => exact hs
  | some b => exact (D.er_setText _ _ _).trans hs
 have hnE : ∀ (d : D) (p : List Int) (ns : List ByteArray) (n : Int) (s : D × Sg), s.1.er = e.er → (namR to d p ns n s).2.1.er = e.er := fun d p ns n s hs => (yf0 to d p ns n s ns.length (Nat.le_refl _)).trans hs
 refine ⟨fun s => ?_, H.hn, H.hX, hw, cn, cv, rfl, rfl, fun s no nt h q hq => ?_, fun d p q ho hq => ?_, fun d p ns n s => ykJ to d p ns n s ns.length (Nat.le_refl _), fun d p ns n m s ho hg hm => ⟨hnE d p ns n s hg.1, ykI to d p ns n s GT H.T.gt m hg.2 ns.length (Nat.le_refl _)⟩, fun d p b m s ho hg h2 => ⟨hvE d p b s hg.1, ?_⟩, fun d p ns n m s σ h1 h2 ho hg hm hnm hgl hU hX => ?_, fun d p b m s σ h1 h2 ho hg hk hgl hU hX => ?_⟩
 ·unfold UE
  split
  ·exact H.keys' ‹_›
  ·exact H.keys' (s := (e, s.2)) rfl
 ·unfold UE at hq
  split at hq
  ·exact H.clo ‹_› h q hq
  ·exact H.clo (s := (e, s.2)) rfl h q hq
 ·rw [D.sub_append, ho]; exact D.sub_subs hq
 ·cases b <;> exact hg.2
 ·rw [yd7 hg.1] at hU
  rw [yd7 (hnE d p ns n s hg.1)]
  exact hn d p ns n m s σ h1 h2 hg.1 hg.2 hm ho hnm hgl hU hX
 ·rw [yd7 hg.1] at hU
  rw [yd7 (hvE d p b s hg.1)]
  exact hv d p s σ h1 h2 hg.1 ho hgl hU hX b
end
theorem ycD {ρ : Option Nat} {P : Program} {σ0 : Store} {N : Nat} {s : St} {Q : Exit → St → Prop} {c : Code} (nl : Nat) (s2 : St) (h : WeakJL nl s s2) (k : AWpR ρ P σ0 N c Q s2) : AWpR ρ P σ0 N c Q s := by
 rintro g0 w0 a w ⟨g, r⟩
 exact k g0 w0 a w (h.rel r)
theorem yiu {α : Type} (l : List α) (x y : α) : (l ++ [x]).set l.length y = l ++ [y] := by simp
theorem ACalls.keepTo {P : Program} {f : FuncId} {args : List AV} {σ : Store} {r0 : AV} {Y : Store} (no : Nat) (h0 : σ.objs.length ≤ no) (hc : ∀ ob, ob ∈ Y.objs → ob ∈ σ.objs ∨ ob.clo no σ.toks.length 0 = true)
  (h : ACalls P f args σ fun r σ' => WVt no σ.toks.length 0 r r0 ∧ σ'.cut no σ.toks.length = Y) : ACalls P f args σ fun r σ' => r = r0 ∧ σ' = Y := by
 refine h.less fun r σ' ⟨h1, h2⟩ => ⟨_, _, r0, h1, h0, Nat.le_refl _, fun ob hob => ?_, rfl, h2⟩
 have : σ'.objs.take no = Y.objs := congrArg Store.objs h2
 rw [this] at hob
 exact hc ob hob
theorem yaZ {α : Type} {X Y : List α} {b : α} {n : Nat} (h : X.length = n) : (X ++ b :: Y)[n]? = some b := by subst h; simp
theorem yp0 {σ : Store} {A : List AObj} {bx : AObj} {e : D} {Sg : Type} {ms : Sg → List (Nat × AObj)} {mk : List Nat} (hA : A = σ.objs ++ bx :: lobjs (σ.objs.length + 1) e) (hmk : ∀ s, (ms s).map (·.1) = mk) (hnd : mk.Nodup) {st : Sg} (hms : HasU σ (ms st)) (B : List AObj) (tk : List Tok) (s : D × Sg) (hs : s.1.er = e.er) (C : List AV) :
  updS ⟨σ.gl, A ++ AObj.arr C :: B, tk⟩ (UR A.length (σ.objs.length + 1) ms s) = ⟨σ.gl, ((updS σ (ms s.2)).objs ++ bx :: lobjs (σ.objs.length + 1) s.1) ++ AObj.arr (lay (σ.objs.length + 1) s.1).cells :: B, tk⟩ := by
 have hl : A.length = σ.objs.length + 1 + msz e := by rw [hA]; simp [Zh]; omega
 have hsz : msz s.1 = msz e := by rw [← z1, hs, z1]
 have hlt : ∀ i, i ∈ mk → i < σ.objs.length := by
  intro i hi
  rw [← hmk st] at hi
  obtain ⟨q, hq, rfl⟩ := List.mem_map.1 hi
  exact hms.lt hq
 have hk := ybX (ob := A.length) (m0 := σ.objs.length + 1) hmk s
 have hn : (A.length :: List.range' (σ.objs.length + 1) (msz s.1) ++ mk).Nodup := by
  refine List.nodup_append.2 ⟨List.nodup_cons.2 ⟨?_, List.nodup_range'⟩, hnd, ?_⟩
  ·rw [List.mem_range'_1]; omega
  ·intro a ha b hb e2
   subst e2
   have := hlt a hb
   rcases List.mem_cons.1 ha with h | h
   ·omega
   ·rw [List.mem_range'_1] at h; omega
 have hlen : (updS σ (ms s.2)).objs.length = σ.objs.length := yfx
 have hl2 : ((updS σ (ms s.2)).objs ++ bx :: lobjs (σ.objs.length + 1) s.1).length = A.length := by simp [hlen, Zh, hl, hsz]; omega
 have key : yK (A ++ AObj.arr C :: B) (UR A.length (σ.objs.length + 1) ms s) = ((updS σ (ms s.2)).objs ++ bx :: lobjs (σ.objs.length + 1) s.1) ++ AObj.arr (lay (σ.objs.length + 1) s.1).cells :: B := by
  refine yaW (by rw [hk]; exact hn) (by rw [List.length_append, List.length_append, hl2]; rfl) (fun q hq => ?_) (fun i hi => ?_)
  ·unfold UR at hq
   rcases List.mem_append.1 hq with hq | hq
   ·rcases List.mem_cons.1 hq with rfl | hq
    ·rw [List.getElem?_append_right (by rw [hl2]; exact Nat.le_refl _), hl2]; simp
    ·have h3 := yb6 (σ := ⟨σ.gl, ((updS σ (ms s.2)).objs ++ bx :: lobjs (σ.objs.length + 1) s.1) ++ AObj.arr (lay (σ.objs.length + 1) s.1).cells :: B, tk⟩) (A := (updS σ (ms s.2)).objs ++ [bx]) (C := AObj.arr (lay (σ.objs.length + 1) s.1).cells :: B) (d := s.1) (by simp [hlen])
     have e3 : ((updS σ (ms s.2)).objs ++ [bx]).length = σ.objs.length + 1 := by simp [hlen]
     rw [e3] at h3
     exact h3 q hq
   ·have hqm : q.1 ∈ mk := by rw [← hmk s.2]; exact List.mem_map.2 ⟨q, hq, rfl⟩
    have := hlt _ hqm
    rw [List.append_assoc, List.getElem?_append_left (by rw [hlen]; exact this)]
    exact YJ (by rw [hmk]; exact hnd) hq this
  ·rw [hk, List.mem_append, not_or] at hi
   obtain ⟨hi1, hi2⟩ := hi
   simp only [List.mem_cons, List.mem_range'_1, not_or] at hi1
   rcases Nat.lt_trichotomy i σ.objs.length with h | h | h
   ·rw [hA, List.append_assoc, List.append_assoc, List.getElem?_append_left h, List.getElem?_append_left (by rw [hlen]; exact h)]
    exact (zr (by rw [hmk]; exact hi2)).symm
   ·subst h
    rw [hA, List.append_assoc, List.append_assoc, List.cons_append, List.cons_append, yaZ rfl, yaZ hlen]
   ·have h5 : A.length < i := by omega
    rw [List.getElem?_append_right (by omega), List.getElem?_append_right (by rw [hl2]; omega), hl2]
    obtain ⟨j, hj⟩ : ∃ j, i - A.length = j + 1 := ⟨i - A.length - 1, by omega⟩
    rw [hj]; rfl
 unfold updS at key ⊢
 simp only at key ⊢
 rw [key]
theorem Z9 {m : Nat} {d : D} {no nt : Nat} (h : m + msz d ≤ no) : (∀ ob, ob ∈ lobjs m d → ob.clo no nt 0 = true) ∧ WVt no nt 0 (lay m d).av (lay m d).av := by
 have hk := yha (ob := m + msz d) (t := lay m d) (no := no + 1) (nt := nt) (fun i hi => by
  rw [ZZ, YM] at hi
  rcases List.mem_cons.1 hi with rfl | hi
  ·omega
  ·rw [List.mem_range'_1] at hi; omega)
 have hlt : ∀ q, q ∈ (lay m d).arrs → q.1 < no := fun q hq => by have := yq9 hq; omega
 have hcs : ∀ u : AD, (∀ q, q ∈ u.arrs → q.1 < no) → AV.clos no nt 0 u.cells = true := by
  intro u hu
  cases u with
  | mk k n tx o l =>
   cases l with
   | nil => rfl
   | cons a l =>
    have := hu (o, .arr ((a :: l).flatMap AD.cells)) (by simp [AD.arrs, Zz])
    simp only [AD.cells, kvOf, AV.clos, AV.clo, Bool.and_true, Bool.true_and, decide_eq_true_eq]
    exact this
 have hrow : ∀ (u : AD), (∀ q, q ∈ u.arrs → q.1 < no) → ∀ q, q ∈ u.arrs → q.2.clo no nt 0 = true := by
  intro u
  induction u using AD.ind with
  | _ k n tx o l ih =>
   intro hu q hq
   rw [AD.arrs, AD.arrss_flat] at hq hu
   rcases List.mem_append.1 hq with hq | hq
   ·cases l with
    | nil => simp [Zz] at hq
    | cons a l =>
     simp only [Zz, List.mem_singleton] at hq
     subst hq
     simp only [AObj.clo, AV.clos_iff]
     intro x hx
     obtain ⟨c, hc, hx⟩ := List.mem_flatMap.1 hx
     exact AV.clos_iff.1 (hcs c fun q hq2 => hu q (List.mem_append_right _ (List.mem_flatMap.2 ⟨c, hc, hq2⟩))) x hx
   ·obtain ⟨c, hc, hq⟩ := List.mem_flatMap.1 hq
    exact ih c hc (fun q hq2 => hu q (List.mem_append_right _ (List.mem_flatMap.2 ⟨c, hc, hq2⟩))) q hq
 refine ⟨fun ob hob => ?_, ?_⟩
 ·obtain ⟨q, hq, rfl⟩ := List.mem_map.1 hob
  exact hrow _ hlt q hq
 ·have hc := hcs _ hlt
  by_cases h0 : (lay m d).kids = []
  ·rw [AD.av_leaf h0]; exact .same rfl
  ·rw [AD.av_node h0]; exact .same hc
section
variable {P : Program} {ty : TyT} {σ0 : Store} {N : Nat} {s : St} {o : Oper} {ops : Array Oper} {os : List Oper} {K : St → Prop} {σ : Store}
theorem ymf (hty : TyOk P ty) {t : TypeId} {p : Operand} {ti : TyI} {i off : Nat} {cells rest : List AV} {u : AD} (hg : o.guard = none) (ho : o.op = .load t p) (hti : ty t = some ti) (hk : ti.kind.agg = true) (h4 : ti.size = 4)
  (hp : ev s p = .ptr i off) (hi : s.σ.objs[i]? = some (.arr cells)) (hc : cells.drop off = u.cells ++ rest) (hd : yJ N o.dst = true) (h : AOpsL P σ0 N ops os K (s.put o.dst u.av)) : AOpsL P σ0 N ops (o :: os) K s := by
 refine YC hg (yfu hty ?_ hd h)
 rw [ho]
 simp only [Yg, hti, hp, Yi, hi, hc, zb, hk, if_true, h4]
 rw [if_pos (by rw [List.length_append, AD.cells_len]; omega), List.take_append_of_le_length (by rw [AD.cells_len]; exact Nat.le_refl _), List.take_of_length_le (by rw [AD.cells_len]; exact Nat.le_refl _)]
 rfl
end
theorem yju (u : AD) : u.cells.take 4 = u.cells := List.take_of_length_le (by rw [AD.cells_len]; exact Nat.le_refl _)
theorem yrH {β S : Type} {nam : D → List Int → List ByteArray → Int → S → List β × S} {vari : D → List Int → Option β → S → S} (I : S → Prop) (hn : ∀ d p ns n s, I s → I (nam d p ns n s).2) (hv : ∀ d p b s, I s → I (vari d p b s)) :
  ∀ (d : D) (p : List Int) (sc : List (ByteArray × β)) (s : S), I s → I (wk nam vari d p sc s) := by
 intro d
 induction d using D.indS with
 | h d ih =>
  intro p sc s hg
  by_cases h2 : yb d = 2
  ·rw [yco _ _ h2]; exact hv _ _ _ _ hg
  by_cases h5 : yb d = 5 ∨ yb d = 9
  ·rw [ycC _ _ h5]
   have hq : subL d 2 (d2 d.kids) ∈ subs d := by rw [yU h5]; simp
   exact ih _ hq _ _ _ (hn _ _ _ _ _ hg)
  by_cases h6 : yb d = 6
  ·rw [ydU _ _ h6]
   have hq : (⟨[2], []⟩, d2 d.kids) ∈ subs d := by rw [yM h6]; simp
   have hq3 : subL d 3 (d.kids.getD 3 dnone) ∈ subs d := by rw [yM h6]; simp
   exact ih _ hq3 _ _ _ (ih _ hq _ _ _ (hn _ _ _ _ _ hg))
  by_cases h7 : yb d = 7
  ·rw [ydW _ _ h7]
   have hq : subL d 2 (d2 d.kids) ∈ subs d := by rw [zd h7]; simp
   refine ih _ hq _ _ _ ?_
   have h0 := hn d p (ownS d) 0 s hg
   generalize yw sc (ownS d) (nam d p (ownS d) 0 s).1 = inn
   generalize (nam d p (ownS d) 0 s).2 = s0 at h0
   have key : ∀ k, k ≤ (d1 d.kids).kids.length → I (wkd nam vari d p inn k s0) := by
    intro k
    induction k with
    | zero => intro _; exact h0
    | succ k ihk =>
     intro hk
     have hx : (d1 d.kids).kids[k]? = some ((d1 d.kids).kids[k]'(by omega)) := by simp
     rw [yaj _ _ hx]
     exact ih _ (List.mem_of_getElem? (zB h7 hx)) _ _ _ (hn _ _ _ _ _ (ihk (by omega)))
   exact key _ (Nat.le_refl _)
  ·rw [← ycv nam vari (d := d) (p := p) (sc := sc) (s := s) ⟨h2, fun h => h5 (.inl h), fun h => h5 (.inr h), h6, h7⟩]
   have key : ∀ k, k ≤ (subs d).length → I (wks nam vari d p sc k s) := by
    intro k
    induction k with
    | zero => intro _; exact hg
    | succ k ihk =>
     intro hk
     have hx : (subs d)[k]? = some ((subs d)[k]'(by omega)) := by simp
     rw [yai _ _ hx]
     exact ih _ (List.mem_of_getElem? hx) _ _ _ (ihk (by omega))
   exact key _ (Nat.le_refl _)
theorem ycF {Sg : Type} (to : List Int → Int → ByteArray → Sg → ByteArray × Sg) (e : D) (st : Sg) : (zZ to e st).1.er = e.er :=
 yrH (fun s : D × Sg => s.1.er = e.er) (fun d p ns n s hs => (yf0 to d p ns n s ns.length (Nat.le_refl _)).trans hs) (fun d p b s hs => by
  cases b with
  | none => exact hs
  | some b => exact (D.er_setText _ _ _).trans hs) e [] [] (e, st) rfl
theorem yqu (u : AD) : zb true 4 u.cells = some u.av := by
 unfold zb
 rw [if_pos rfl, if_pos (by rw [AD.cells_len]; exact Nat.le_refl _), yju]; rfl
theorem yf3 {ty : TyT} {s : St} {c : Tmp} {t : TypeId} {ti : TyI} {i : Nat} {u : AD} (hti : ty t = some ti) (hk : ti.kind.agg = true) (h4 : ti.size = 4) (hp : get s.T c = .lptr i 0) (hL : s.L[i]? = some u.cells) : Y4 ty s [.cell c t] = some [u.av] := by
 simp only [Y4, hti, hp, Yi, hL, Option.bind_some, List.drop_zero, hk, h4, yqu, Option.map_some]
theorem ymW (u : AD) : AV.noLs [u.av] = true := by
 by_cases h : u.kids = []
 ·rw [AD.av_leaf h]; rfl
 ·rw [AD.av_node h]
  simp only [AV.noLs, AV.noL, Bool.and_true]
  exact AV.noLs_iff.2 (AD.noL_cells u)
end Go.Aw

namespace Go.Aw
open Go Go.ChangeShapes Go.WideShapes Go.ChangeAt Go.WideMaps Go.WideElems Go.RowKit
theorem ybS {α : Type} {Q : Nat → α → Prop} : ∀ n : Nat, (∀ i, i < n → ∃ d, Q i d) → ∃ l : List α, l.length = n ∧ ∀ i x, l[i]? = some x → Q i x
 | 0, _ => ⟨[], rfl, fun i x h => by simp at h⟩
 | n + 1, h => by
  obtain ⟨l, h1, h2⟩ := ybS n (fun i hi => h i (by omega))
  obtain ⟨d, hd⟩ := h n (by omega)
  refine ⟨l ++ [d], by simp [h1], fun i x hx => ?_⟩
  rcases getElem?_snoc hx with hx | ⟨rfl, rfl⟩
  ·exact h2 i x hx
  ·rw [h1]; exact hd

theorem ye0 {B : Nat} {S : Nat → Nat → Prop} {w : World} {a : Addr} {len cap sz : Nat} {xs : List PV} (hlen : xs.length = len) (hcap : len ≤ cap) (hb : a.block < B) (h0 : 0 < sz) (hsz : ∀ x, x ∈ xs → x.cells.length = sz)
  (h : ∀ (q : Nat) x, xs[q]? = some x → ∃ cs : List Value, cs.length = sz ∧ (∀ r, r < sz → w.cell? ((a.add (q * sz)).add r) = cs[r]?) ∧ (∀ v, v ∈ cs → v.oneCell' = true) ∧ ∀ (r : Nat) y v, x.cells[r]? = some y → cs[r]? = some v → RP B S w y v) :
  RP B S w (.slice xs) (.slice (some a) len cap) := by
 by_cases hl : xs = []
 ·subst hl; simp at hlen; subst hlen; exact .empty
 have hspot : a.spot = none := by
  obtain ⟨x, r, hx⟩ := ydx hl
  obtain ⟨cs, h1, h2, _⟩ := h 0 x (by rw [hx]; rfl)
  have h3 := h2 0 h0
  rw [Nat.zero_mul, Addr.add, if_pos rfl, Addr.add, if_pos rfl] at h3
  have h4 : cs[0]? = some cs[0] := by simp
  rw [h4] at h3
  unfold World.cell? at h3
  cases hs : a.spot with
  | none => rfl
  | some s =>
   rw [hs] at h3
   split at h3 <;> simp at h3
 have hadd : ∀ n, a.add n = ⟨a.block, a.off + n, none⟩ := by
  intro n
  unfold Addr.add
  split
  ·subst_vars; cases a; simp only at hspot; subst hspot; rfl
  ·rfl
 have hadd2 : ∀ n m, (a.add n).add m = ⟨a.block, a.off + (n + m), none⟩ := by
  intro n m
  rw [hadd]
  unfold Addr.add
  split
  ·subst_vars; rfl
  ·show (⟨a.block, a.off + n + m, none⟩ : Addr) = _
   rw [Nat.add_assoc]
 have ha : a = ⟨a.block, a.off, none⟩ := by cases a; simp only at hspot; subst hspot; rfl
 have hall : ∀ i, i < len * sz → ∃ (q r : Nat) (x : PV) (cs : List Value), i = q * sz + r ∧ r < sz ∧ xs[q]? = some x ∧ cs.length = sz ∧ w.cell? ⟨a.block, a.off + i, none⟩ = cs[r]? ∧ (∀ v, v ∈ cs → v.oneCell' = true) ∧ ∀ (r : Nat) y v, x.cells[r]? = some y → cs[r]? = some v → RP B S w y v := by
  intro i hi
  have hq : i / sz < len := Nat.div_lt_of_lt_mul (by rw [Nat.mul_comm]; exact hi)
  have hr : i % sz < sz := Nat.mod_lt _ h0
  have hx : xs[i / sz]? = some xs[i / sz] := by simp [hlen, hq]
  obtain ⟨cs, h1, h2, h3, h4⟩ := h _ _ hx
  have h5 := h2 (i % sz) hr
  have he : i / sz * sz + i % sz = i := by rw [Nat.mul_comm]; exact Nat.div_add_mod i sz
  rw [hadd2, he] at h5
  exact ⟨i / sz, i % sz, _, cs, he.symm, hr, hx, h1, h5, h3, h4⟩
 rw [ha, ← hlen]
 refine RP.slice (sz := sz) (vs := (List.range (len * sz)).map fun j => (w.cell? ⟨a.block, a.off + j, none⟩).getD (.int .i64 0)) hsz (by simp [hlen]) (by omega) (fun i v hv => ?_) (fun i y v hy hv => ?_)
 ·have hi : i < len * sz := by have := (List.getElem?_eq_some_iff.1 hv).1; simpa using this
  obtain ⟨q, r, x, cs, h1, h2, h3, h4, h5, h6, h7⟩ := hall i hi
  have h8 : cs[r]? = some cs[r] := by simp [h4, h2]
  rw [h8] at h5
  simp only [List.getElem?_map, List.getElem?_range hi, Option.map_some, Option.some.injEq, h5, Option.getD_some] at hv
  subst hv
  exact ⟨.inl hb, h5, h6 _ (List.getElem_mem _)⟩
 ·have hi : i < len * sz := by have := (List.getElem?_eq_some_iff.1 hv).1; simpa using this
  obtain ⟨q, r, x, cs, h1, h2, h3, h4, h5, h6, h7⟩ := hall i hi
  have h8 : cs[r]? = some cs[r] := by simp [h4, h2]
  rw [h8] at h5
  simp only [List.getElem?_map, List.getElem?_range hi, Option.map_some, Option.some.injEq, h5, Option.getD_some] at hv
  subst hv
  rw [h1, yfq hsz h3 h2] at hy
  exact h7 r y _ hy h8

structure DatumTy (P : Program) (tD tK ti tn ts : TypeId) : Prop where
 und : ∃ f0 f1 f2 f3 : Field, P.underlying tD = some (.struct #[f0, f1, f2, f3]) ∧ f0.type = ti ∧ f0.offset = 0 ∧ f1.type = tn ∧ f1.offset = 1 ∧ f2.type = ts ∧ f2.offset = 2 ∧ f3.type = tK ∧ f3.offset = 3
 i : P.underlying ti = some (.int .i64)
 n : P.underlying tn = some (.int .i64)
 s : P.underlying ts = some .string
 k : P.underlying tK = some (.slice tD)
 cD : P.cellsOf tD = 4
 ci : P.cellsOf ti = 1
 cn : P.cellsOf tn = 1
 cs : P.cellsOf ts = 1
 ck : P.cellsOf tK = 1

theorem yh5 {α : Type} {l : List α} {i : Nat} {a : α} (h : (l.drop i).take 1 = [a]) : l[i]? = some a := by
 have h1 : ((l.drop i).take 1)[0]? = some a := by rw [h]; rfl
 rw [List.getElem?_take, List.getElem?_drop] at h1
 simpa using h1

section
variable {H : Type} {enc' : TypeId × Value → H} {P : Program} {w : World} {base : Nat} {spare : Nat → Bool} {held : Bool} {tD tK ti tn ts : TypeId} {S : Nat → Nat → Prop}
theorem yle (T : DatumTy P tD tK ti tn ts) : ∀ (fuel : Nat) (cs : List Value) (x : DataW H × List MemPlace), DataW.trod enc' P w base spare held fuel tD cs = some x →
  ∃ (d : D) (v : Value), cs = [.int .i64 d.kind, .int .i64 d.num, .string d.text, v] ∧ v.oneCell' = true ∧ RP w.heap.size S w (.slice (d.kids.map enc)) v := by
 intro fuel
 induction fuel using Nat.strongRecOn with
 | _ fuel ih =>
  intro cs x h
  obtain ⟨f0, f1, f2, f3, hu, t0, o0, t1, o1, t2, o2, t3, o3⟩ := T.und
  obtain ⟨xs, n, rfl, rfl, hl, hlen, hf⟩ := DataW.trod_struct hu h
  have hxl : xs.length = 4 := by simpa using hlen
  have g0 := hf 0 f0 rfl
  have g1 := hf 1 f1 rfl
  have g2 := hf 2 f2 rfl
  have g3 := hf 3 f3 rfl
  rw [t0, o0, T.ci] at g0
  rw [t1, o1, T.cn] at g1
  rw [t2, o2, T.cs] at g2
  rw [t3, o3, T.ck] at g3
  have s0 : xs[0]? = some xs[0] := by simp
  have s1 : xs[1]? = some xs[1] := by simp
  have s2 : xs[2]? = some xs[2] := by simp
  have s3 : xs[3]? = some xs[3] := by simp
  rw [s0] at g0
  rw [s1] at g1
  rw [s2] at g2
  rw [s3] at g3
  obtain ⟨k, e0, _, _⟩ := DataW.trod_int T.i g0
  obtain ⟨m, e1, _, _⟩ := DataW.trod_int T.n g1
  obtain ⟨t, e2, _, _⟩ := DataW.trod_string T.s g2
  have a0 := yh5 e0
  have a1 := yh5 e1
  have a2 := yh5 e2
  rw [T.cD] at hl
  have hcs : ∃ v, cs = [.int .i64 k, .int .i64 m, .string t, v] := by
   match cs, hl, a0, a1, a2 with
   | [c0, c1, c2, c3], _, a0, a1, a2 =>
    simp only [List.getElem?_cons_zero, List.getElem?_cons_succ, Option.some.injEq] at a0 a1 a2
    exact ⟨c3, by rw [a0, a1, a2]⟩
  obtain ⟨v, hcs⟩ := hcs
  rw [hcs] at g3
  have g3' : DataW.trod enc' P w base spare held n tK [v] = some xs[3] := g3
  rcases DataW.trod_slice T.k g3' with ⟨hv, _⟩ | ⟨a, len, cap, elems, rest, m', rfl, hv, _, hb, hlc, hcm, hel, hes, _⟩
  ·cases hv
   exact ⟨.mk k m t [], _, hcs, rfl, by simp only [D.kids, List.map_nil]; exact .empty⟩
  ·cases hv
   rw [T.cD] at hes
   have hex : ∀ i, i < len → ∃ d : D, ∃ v' : Value, (∀ r, r < 4 → w.cell? ((a.add (i * 4)).add r) = ([.int .i64 d.kind, .int .i64 d.num, .string d.text, v'] : List Value)[r]?) ∧ v'.oneCell' = true ∧ RP w.heap.size S w (.slice (d.kids.map enc)) v' := by
    intro i hi
    have h1 := hes i hi
    have h2 : elems[i]? = some elems[i] := by simp [hel, hi]
    rw [h2] at h1
    obtain ⟨cs', hc, ht⟩ := Option.bind_eq_some_iff.1 h1
    obtain ⟨_, _, hc2⟩ := World.cells?_some hc
    obtain ⟨d, v', he, hone, hrp⟩ := ih m' (by omega) cs' _ ht
    subst he
    exact ⟨d, v', hc2, hone, hrp⟩
   obtain ⟨l, hll, hlq⟩ := ybS len hex
   refine ⟨.mk k m t l, _, hcs, rfl, ?_⟩
   show RP w.heap.size S w (.slice (l.map enc)) (.slice (some a) len cap)
   by_cases hlen0 : len = 0
   ·subst hlen0
    have : l = [] := List.eq_nil_of_length_eq_zero hll
    subst this
    exact .empty
   have hblk : a.block < w.heap.size := by
    obtain ⟨d, v', h1, _⟩ := hex 0 (by omega)
    have h2 := h1 0 (by omega)
    rw [Nat.zero_mul, Addr.add, if_pos rfl, Addr.add, if_pos rfl] at h2
    unfold World.cell? at h2
    by_cases hlt : a.block < w.heap.size
    ·exact hlt
    ·rw [Array.getElem?_eq_none (by omega)] at h2; simp at h2
   refine ye0 (sz := 4) (by simp [hll]) hlc hblk (by omega) (fun x hx => ?_) (fun q x hx => ?_)
   ·obtain ⟨d, _, rfl⟩ := List.mem_map.1 hx
    rw [zQ]; rfl
   ·rw [List.getElem?_map] at hx
    obtain ⟨d, hd, rfl⟩ := Option.map_eq_some_iff.1 hx
    obtain ⟨v', h1, h2, h3⟩ := hlq q d hd
    refine ⟨[.int .i64 d.kind, .int .i64 d.num, .string d.text, v'], rfl, h1, fun u hu => ?_, fun r y u hy hu => ?_⟩
    ·simp only [List.mem_cons, List.not_mem_nil, or_false] at hu
     rcases hu with rfl | rfl | rfl | rfl <;> first | rfl | exact h2
    ·rw [zQ] at hy
     match r with
     | 0 => simp at hy hu; subst hy hu; exact .int
     | 1 => simp at hy hu; subst hy hu; exact .int
     | 2 => simp at hy hu; subst hy hu; exact .str
     | 3 => simp at hy hu; subst hy hu; exact h3
     | r + 4 => simp at hy
end
end Go.Aw

namespace Go.Aw
open Go Go.ChangeShapes Go.WideShapes Go.ChangeAt Go.WideMaps Go.WideElems Go.RowKit
theorem yeZ {H : Type} (x : Lit × DataW H) : ∀ l : List (Lit × DataW H), (DataW.insert x l).Perm (x :: l)
 | [] => .refl _
 | y :: r => by
  unfold DataW.insert
  split
  ·exact .refl _
  ·exact ((yeZ x r).cons y).trans (.swap _ _ _)
theorem YN {H : Type} : ∀ l : List (Lit × DataW H), (l.foldr DataW.insert []).Perm l
 | [] => .refl _
 | x :: l => (yeZ x _).trans ((YN l).cons x)

def ycj : Lit → List UInt8
 | .string s => s
 | _ => []

def g0 (W : World) : Ghost := { B := W.heap.size, K := fun _ => False, S := fun _ _ => False, io := [], lam := [], tb := [] }
theorem inv0 {W : World} {gl : List (Nat × PV)} (h : ∀ n p, (n, p) ∈ gl → RP W.heap.size (fun _ _ => False) W p (.pointer (some ⟨n, 0, none⟩))) : Inv (g0 W) ⟨gl, [], []⟩ [] W := by
 refine ⟨rfl, rfl, rfl, h, List.nodup_nil, fun b hb => (by simp [g0, Ghost.owned] at hb), fun b hb => (by cases hb), Nat.le_refl _, fun b o hS => (by cases hS), fun o ob b ho => (by simp at ho), fun i cs b hL => (by simp at hL), fun k t tb ht => (by simp at ht)⟩
theorem ynK {W W' : World} {σ σ' : Store} {g' : Ghost} (h : Ext (g0 W) σ W g' σ' W') : Below W.heap.size W W' :=
 ⟨h.os, h.tape, h.output, h.size, fun k hk => h.le.keeps.blk k hk⟩

section
variable {H : Type} {enc' : TypeId × Value → H} {P : Program}
theorem yhG {f : Func} {s : ChangeSpec} {apart fresh handsOn again : Bool} {W W' : World} {args : Array Value} {v : Value} {ds gs : List (DataW H)} {before pa pv : List MemPlace}
  (hW : DataW.Whole enc' P f.params.toList s.vars apart W args.toList ds gs before)
  (hres : ∀ (b : Nat) (sp : Nat → Bool) (hd : Bool), DataW.TrodAll enc' P W' b sp hd f.resultTypes.toList (v.resultList f.resultTypes.size) (s.fn H (ds ++ gs)).results [])
  (hargs : ∀ sp : Nat → Bool, (∀ p ∈ before, sp p.block = true) → DataW.TrodAll enc' P W' 0 sp true f.params.toList args.toList (s.fn H (ds ++ gs)).args pa)
  (hvars : ∀ sp : Nat → Bool, (∀ p ∈ before, sp p.block = true) → DataW.TrodVars enc' P W' sp s.vars (s.fn H (ds ++ gs)).vars pv)
  (hps : before = pa ++ pv) (hb : Below W.heap.size W W')
  (hok : ∀ (j : Nat) (t : TypeId) (r : Value), f.resultTypes[j]? = some t → (v.resultList f.resultTypes.size)[j]? = some r → Value.okWide P W' .any 0 t r) :
  s.post enc' P f apart fresh handsOn again W args v W' := by
 have hold : ∀ p ∈ before, (fun b => decide (b < W.heap.size)) p.block = true := fun p hp => by simpa using hW.lt p hp
 refine ⟨ds, gs, before, [], pa, pv, hW, hres _ _ _, hargs _ hold, hvars _ hold, hb.frame _, fun _ => ?_⟩
 have hlt := hW.lt
 obtain ⟨_, _, _, _, _, hz, hn⟩ := hW
 refine ⟨hok, _, _, ([] ++ pa) ++ pv, ⟨[] ++ pa, pv, trodAll_append (hargs _ (fun _ _ => rfl)) (hres _ _ _), hvars _ (fun _ _ => rfl), rfl, ?_, ?_⟩, ?_⟩
 ·intro b off hp
  have hp' : MemPlace.cell b off ∈ before := by rw [hps]; simpa using hp
  have hl := hlt _ hp'
  rw [hb.frozen (p := ⟨b, off, none⟩) hl]
  exact hz b off hp'
 ·intro ha
  have := hn ha
  rw [hps] at this
  simpa using this
 ·intro p hp _
  rw [hps]
  simpa using hp
end
end Go.Aw

namespace Go.Aw
open Go Go.RowKit Go.Sort Go.Proofs Go.Maps Go.WideElems
def bstr (l : List UInt8) : ByteArray := ⟨l.toArray⟩
theorem yjp {P : Program} {f : FuncId} {args : List AV} {σ : Store} {Q : List (List UInt8) → Prop}
  (h : ∀ g w (cargs : List Value), Inv g σ [] w → cargs.length = args.length → (∀ (i : Nat) x v, args[i]? = some x → cargs[i]? = some v → RA g σ.toks w x v) →
   Calls P f cargs.toArray w fun e w' => ∃ (v : Value) (ss : List (List UInt8)) (t : TypeId), e = .returned v ∧ Q ss ∧ w'.ownsRow w.heap.size t 1 v ss.length (ss.map encStr) ∧ Below w.heap.size w w') :
  ACalls P f args σ fun r σ' => ∃ ss : List (List UInt8), r = .pv (.slice (ss.map fun l => .str (bstr l))) ∧ Q ss ∧ σ' = σ := by
 intro g w cargs hinv hlen hargs
 refine (h g w cargs hinv hlen hargs).mono ?_
 rintro e w' ⟨v, ss, t, rfl, hQ, ⟨hxl, hrow⟩, hb⟩
 obtain ⟨h1, h2⟩ := hinv.step hb.size (fun b hlt => hb.block b hlt)
 have hext : Ext g σ w g σ w' := ⟨h2, rfl, fun _ h => h, fun b hK => hb.block b (hinv.kept b hK).1, hb.size, hb.os, hb.tape, hb.output, hinv.lio, hinv.clo⟩
 rcases hrow with ⟨rfl, hn⟩ | ⟨b, cap, cur, rfl, hbase, hbk, hnc, hcm, hsz, htk⟩
 ·have hss : ss = [] := List.eq_nil_of_length_eq_zero hn
  subst hss
  exact ⟨_, _, σ, g, rfl, ⟨[], rfl, hQ, rfl⟩, h1, hext, .pv .empty⟩
 ·have hblt : b < w'.heap.size := by
   by_cases hlt : b < w'.heap.size
   ·exact hlt
   ·rw [Array.getElem?_eq_none (by omega)] at hbk; cases hbk
  have hfr : Fresh g w' b := by
   refine ⟨by have := hinv.base; omega, hblt, fun hK => by have := (hinv.kept b hK).1; omega, fun o hS => by have := (hinv.cells b o hS).2.1; omega, fun hm => by have := (hinv.low b hm).2.1; omega⟩
  obtain ⟨h3, h4⟩ := h1.addS hfr (fun o => o < ss.length)
  have hle := h2.trans h4
  refine ⟨_, _, σ, _, rfl, ⟨ss, rfl, hQ, rfl⟩, h3, ⟨hle, rfl, fun _ h => h, fun b hK => hb.block b (hinv.kept b hK).1, hb.size, hb.os, hb.tape, hb.output, hinv.lio, hinv.clo⟩, .pv ?_⟩
  have hrp : RP g.B (fun c o => g.S c o ∨ (c = b ∧ o < ss.length)) w' (.slice (ss.map fun l => .str (bstr l))) (.slice (some ⟨b, 0, none⟩) (ss.map fun l => PV.str (bstr l)).length cap) := by
   refine .slice (sz := 1) (vs := ss.map encStr) (fun x hx => by obtain ⟨l, _, rfl⟩ := List.mem_map.1 hx; rfl) (by simp) (by simpa using hnc) (fun i u hu => ?_) (fun i x u hx hu => ?_)
   ·have hi : i < ss.length := by have := (List.getElem?_eq_some_iff.1 hu).1; simpa using this
    refine ⟨.inr (.inr ⟨rfl, by omega⟩), ?_, ?_⟩
    ·rw [zg hbk, Nat.zero_add]
     have h5 : (cur.toList.take (ss.length * 1))[i]? = some u := by rw [htk]; exact hu
     rw [List.getElem?_take, if_pos (by omega)] at h5
     simpa using h5
    ·rw [List.getElem?_map] at hu
     obtain ⟨l, _, rfl⟩ := Option.map_eq_some_iff.1 hu
     rfl
   ·have hfl : flat (ss.map fun l => PV.str (bstr l)) = ss.map fun l => PV.str (bstr l) := by
     generalize ss = L
     induction L with
     | nil => rfl
     | cons a L ih => simp only [List.map_cons]; show PV.cells _ ++ flat _ = _; rw [ih]; rfl
    rw [hfl, List.getElem?_map] at hx
    rw [List.getElem?_map] at hu
    obtain ⟨l, hl, rfl⟩ := Option.map_eq_some_iff.1 hx
    rw [hl] at hu
    simp only [Option.map_some, Option.some.injEq] at hu
    subst hu
    exact .str
  simpa using hrp
theorem yo0 {P : Program} {g : Ghost} {w : World} {b : Nat} {S : List ByteArray} {kt : TypeId} (hk : P.underlying kt = some .string) (h : RMap g w b (tK S) (tV S)) (hm : S.length ≤ maxLen) (hs : ∀ s, s ∈ S → s.size ≤ maxLen) :
  ∃ D0 : DataW Unit, w.ownsMap P kt (fun _ => some (.nil, [])) b S.length D0 ∧ (strKeys D0).Perm (S.map fun s => s.data.toList) ∧ Maps.size D0 = S.length := by
 obtain ⟨es, clock, h0, h1, h2, h3, h4, h5⟩ := h
 have hkl : (tK S).length = S.length := by simp [tK]
 have hes : ∀ (i : Nat) e, es[i]? = some e → ∃ s, S[i]? = some s ∧ e.key = .string s := by
  intro i e he
  have hi : i < S.length := by have := (List.getElem?_eq_some_iff.1 he).1; omega
  have hsi : S[i]? = some S[i] := by simp
  have hti : (tK S)[i]? = some (.str S[i]) := by unfold tK; rw [List.getElem?_map, hsi]; rfl
  exact ⟨_, hsi, (h3 i _ e hti he).str_inv⟩
 have hrd : ∀ (i : Nat) e, es[i]? = some e → ∃ s, S[i]? = some s ∧ WideElems.rd P kt (fun _ => some ((.nil : DataW Unit), [])) e = some (.string s.data.toList, .nil) := by
  intro i e he
  obtain ⟨s, hsi, hke⟩ := hes i e he
  refine ⟨s, hsi, ?_⟩
  unfold WideElems.rd
  rw [hke, WideMaps.keyOf_string_mk hk (hs s (List.mem_of_getElem? hsi))]
  rfl
 have hrg : es.map (WideElems.rg P kt fun _ => some ((.nil : DataW Unit), [])) = S.map fun s => (Lit.string s.data.toList, (.nil : DataW Unit)) := by
  apply List.ext_getElem?
  intro i
  rw [List.getElem?_map, List.getElem?_map]
  cases he : es[i]? with
  | none =>
   have : S[i]? = none := by rw [List.getElem?_eq_none_iff] at he ⊢; omega
   rw [this]; rfl
  | some e =>
   obtain ⟨s, hsi, hr⟩ := hrd i e he
   rw [hsi]
   simp only [Option.map_some]
   rw [WideElems.rg_of hr]
 refine ⟨_, ⟨es.toArray, clock, h0, ⟨by simp; omega, h5, fun x hx => ?_⟩, by simp; omega, rfl⟩, ?_, ?_⟩
 ·obtain ⟨i, hi⟩ := List.getElem?_of_mem (show x ∈ es by simpa using hx)
  obtain ⟨s, _, hr⟩ := hrd i x hi
  exact ⟨_, hr⟩
 ·have hp := (YN (es.toArray.toList.map (WideElems.rg P kt fun _ => some ((.nil : DataW Unit), [])))).map fun p => strOf p.1
  rw [show es.toArray.toList = es by simp, hrg] at hp
  show List.Perm (List.map _ _) _
  rw [show es.toArray.toList = es by simp, hrg]
  refine hp.trans ?_
  rw [List.map_map]
  refine List.Perm.of_eq (List.map_congr_left fun s _ => ?_)
  rfl
 ·have hp := (YN (es.toArray.toList.map (WideElems.rg P kt fun _ => some ((.nil : DataW Unit), []))))
  rw [show es.toArray.toList = es by simp, hrg] at hp
  show List.length _ = _
  rw [show es.toArray.toList = es by simp, hrg, hp.length_eq]
  simp
theorem yct {α : Type} {r : α → α → Prop} (ha : ∀ a b, r a b → r b a → a = b) : ∀ {l1 l2 : List α}, l1.Perm l2 → l1.Pairwise r → l2.Pairwise r → l1 = l2
 | [], l2, h, _, _ => (List.Perm.nil_eq h)
 | a :: l1, [], h, _, _ => (List.Perm.eq_nil h)
 | a :: l1, b :: l2, h, h1, h2 => by
  have hab : a = b := by
   rcases List.mem_cons.1 (h.mem_iff.1 (List.mem_cons_self (a := a) (l := l1))) with e | e
   ·exact e
   ·rcases List.mem_cons.1 (h.mem_iff.2 (List.mem_cons_self (a := b) (l := l2))) with e2 | e2
    ·exact e2.symm
    ·exact ha a b ((List.pairwise_cons.1 h1).1 b e2) ((List.pairwise_cons.1 h2).1 a e)
  subst hab
  rw [yct ha (List.Perm.cons_inv h) (List.pairwise_cons.1 h1).2 (List.pairwise_cons.1 h2).2]
def yc5 (S : List ByteArray) : List ByteArray := ((S.map fun s => s.data.toList).mergeSort fun x y => decide (x ≤ y)).map bstr
theorem yg1 (a b : List UInt8) : (decide (a ≤ b) || decide (b ≤ a)) = true := by
 have := List.le_total a b
 rcases this with h | h <;> simp [h]
theorem yhj (a b c : List UInt8) : decide (a ≤ b) = true → decide (b ≤ c) = true → decide (a ≤ c) = true := by
 simp only [decide_eq_true_eq]
 exact fun h1 h2 => List.le_trans h1 h2
theorem ym9 {ss tt : List (List UInt8)} (h : ss.Perm tt) : (ss.mergeSort fun x y => decide (x ≤ y)) = tt.mergeSort fun x y => decide (x ≤ y) := by
 refine yct (r := fun x y => (decide (x ≤ y)) = true) (fun a b h1 h2 => List.le_antisymm (by simpa using h1) (by simpa using h2)) ?_ (List.pairwise_mergeSort (le := fun x y => decide (x ≤ y)) yhj yg1 ss) (List.pairwise_mergeSort (le := fun x y => decide (x ≤ y)) yhj yg1 tt)
 exact (List.mergeSort_perm ss _).trans (h.trans (List.mergeSort_perm tt _).symm)
theorem yhw {P : Program} {fs fk : FuncId} {kt : TypeId} {n m : Nat} (hk : P.underlying kt = some .string)
  (hseq : ∀ (w : World) (Bm b nn : Nat) (D0 : DataW Unit), Bm < w.heap.size → w.cell? ⟨Bm, 0, none⟩ = some (.map (some b)) → w.ownsMap P kt (fun _ => some ((.nil : DataW Unit), [])) b nn D0 → SeqGives Fence.wide n P fk #[.pointer (some ⟨Bm, 0, none⟩)] encStr (fun ss => ss.Perm (strKeys D0)) (Maps.size D0) w)
  (hsrt : ∀ (Bm N : Nat) (S : List (List UInt8) → Prop) (w : World), N ≤ maxLen → N * 16 ≤ 140737488355328 → SeqGives Fence.wide n P fk #[.pointer (some ⟨Bm, 0, none⟩)] encStr S N w →
   CallsIn Fence.wide m P fs #[.func (.func fk) #[] #[.pointer (some ⟨Bm, 0, none⟩)]] w fun e w' => ∃ (v : Value) (ss : List (List UInt8)) (t : TypeId), e = .returned v ∧ S ss ∧ w'.ownsRow w.heap.size t 1 v ss.length ((ss.mergeSort (fun x y => decide (x ≤ y))).map encStr) ∧ Below w.heap.size w w')
  {σ : Store} {o om : Nat} {S : List ByteArray} (ho : σ.objs[o]? = some (.box [.map om])) (hom : σ.objs[om]? = some (.map (tK S) (tV S))) (hl : S.length ≤ 1000000000) (hs : ∀ s, s ∈ S → s.size ≤ maxLen) :
  ACalls P fs [.func (.func fk) [.ptr o 0]] σ fun r σ' => r = .pv (.slice ((yc5 S).map .str)) ∧ σ' = σ := by
 have h := yjp (P := P) (f := fs) (args := [.func (.func fk) [.ptr o 0]]) (σ := σ) (Q := fun ss => ss = (S.map fun s => s.data.toList).mergeSort fun x y => decide (x ≤ y)) (fun g w cargs hinv hlen hargs => ?_)
 ·refine h.mono ?_
  rintro r σ' ⟨ss, rfl, rfl, rfl⟩
  exact ⟨by unfold yc5; rw [List.map_map]; rfl, rfl⟩
 ·match cargs, hlen with
  | [v], hlen1 =>
   have hv := hargs 0 _ v rfl rfl
   cases hv with
   | func hfl hfr =>
    rename_i vs
    match vs, hfl with
    | [p], hpl1 =>
     have hp := hfr 0 _ p rfl rfl
     cases hp with
     | ptr hio =>
      rename_i Bm
      obtain ⟨_, us, e, h6, h7, h8, h9⟩ := hinv.objs o _ Bm ho hio
      match us, h7 with
      | [u], hul1 =>
       have hu := h9 0 _ u rfl rfl
       cases hu with
       | map hio2 =>
        rename_i b
        have hbm := (hinv.low Bm (ydK hio)).2.1
        obtain ⟨D0, k1, k2, k3⟩ := yo0 hk (hinv.objs om _ b hom hio2) (Nat.le_trans hl (by decide)) hs
        have hcell : w.cell? ⟨Bm, 0, none⟩ = some (.map (some b)) := by rw [zg h6]; rfl
        have hsq := hseq w Bm b S.length D0 hbm hcell k1
        refine (callsIn_wide.1 (hsrt Bm (Maps.size D0) _ w (by rw [k3]; exact Nat.le_trans hl (by decide)) (by rw [k3]; omega) hsq)).mono ?_
        rintro e' w' ⟨v, ss, t, rfl, hS, hrow, hb⟩
        refine ⟨v, ss.mergeSort fun x y => decide (x ≤ y), t, rfl, ym9 (hS.trans k2), ?_, hb⟩
        rw [List.length_mergeSort]
        exact hrow
end Go.Aw

namespace Go.Aw
open Go
def vS (n : Int) : ByteArray := ⟨#[118]⟩ ++ Yd n
theorem yq8 {n m : Int} (hn : 0 ≤ n) (hm : 0 ≤ m) (h : vS n = vS m) : n = m := by
 have h1 := congrArg (fun x : ByteArray => x.data.toList) h
 simp [vS] at h1
 exact ymU hn hm (ByteArray.ext h1)
theorem ymQ {l : List ByteArray} {x : ByteArray} : memB l x = true ↔ x ∈ l := by
 unfold memB
 rw [List.any_eq_true]
 exact ⟨fun ⟨y, hy, e⟩ => by simp at e; rw [e]; exact hy, fun h => ⟨x, h, by simp⟩⟩
theorem ydc {α : Type} [DecidableEq α] : ∀ {l S : List α}, l.Nodup → (∀ x, x ∈ l → x ∈ S) → l.length ≤ S.length
 | [], S, _, _ => Nat.zero_le _
 | a :: l, S, hn, h => by
  have hn := List.nodup_cons.1 hn
  have ha := h a (by simp)
  have := ydc (l := l) (S := S.erase a) hn.2 (fun x hx => (List.mem_erase_of_ne (fun e => hn.1 (by rw [← e]; exact hx))).2 (h x (by simp [hx])))
  rw [List.length_erase_of_mem ha] at this
  have hp := List.length_pos_of_mem ha
  simp only [List.length_cons]; omega
def hits (S : List ByteArray) (n : Nat) : Nat := ((List.range n).filter fun (j : Nat) => memB S (vS (j : Int))).length
theorem ykv (S : List ByteArray) (n : Nat) : hits S n ≤ S.length := by
 unfold hits
 rw [← List.length_map (f := fun j : Nat => vS (j : Int))]
 refine ydc ?_ (fun x hx => ?_)
 ·rw [List.nodup_iff_pairwise_ne, List.pairwise_map]
  refine List.Pairwise.imp ?_ ((List.nodup_range (n := n)).filter _)
  intro a b h e
  exact h (by have := yq8 (by omega) (by omega) e; omega)
 ·obtain ⟨j, hj, rfl⟩ := List.mem_map.1 hx
  exact ymQ.1 (List.mem_filter.1 hj).2
theorem yhi (S : List ByteArray) (n : Nat) : hits S (n + 1) = hits S n + (if memB S (vS (n : Int)) = true then 1 else 0) := by
 unfold hits
 rw [List.range_succ, List.filter_append, List.length_append]
 congr 1
 by_cases h : memB S (vS (n : Int)) = true
 ·rw [if_pos h]; simp [h]
 ·rw [if_neg h]; simp [h]
theorem yfi {S : List ByteArray} {n : Nat} : ∀ {k : Nat}, (∀ j, n ≤ j → j < n + k → memB S (vS (j : Int)) = true) → hits S (n + k) = hits S n + k
 | 0, _ => rfl
 | k + 1, h => by
  rw [← Nat.add_assoc, yhi, yfi (fun j h1 h2 => h j h1 (by omega)), if_pos (h (n + k) (by omega) (by omega))]; omega
def nxtF (S : List ByteArray) : Nat → Nat → Nat
 | 0, n => n
 | f + 1, n => if memB S (vS (n : Int)) = true then nxtF S f (n + 1) else n
def nxtV (S : List ByteArray) (n : Nat) : Nat := nxtF S (S.length + 1) n
theorem yhh (S : List ByteArray) : ∀ (f n : Nat), n ≤ nxtF S f n ∧ nxtF S f n ≤ n + f ∧ (∀ j, n ≤ j → j < nxtF S f n → memB S (vS (j : Int)) = true) ∧ (nxtF S f n < n + f → memB S (vS (nxtF S f n : Int)) = false)
 | 0, n => ⟨Nat.le_refl _, Nat.le_refl _, fun j h1 h2 => by simp only [nxtF] at h2; omega, fun h => by simp only [nxtF] at h; omega⟩
 | f + 1, n => by
  simp only [nxtF]
  split
  ·rename_i hm
   obtain ⟨h1, h2, h3, h4⟩ := yhh S f (n + 1)
   refine ⟨by omega, by omega, fun j h5 h6 => ?_, fun h => h4 (by omega)⟩
   by_cases hj : j = n
   ·subst hj; exact hm
   ·exact h3 j (by omega) h6
  ·rename_i hm
   exact ⟨Nat.le_refl _, by omega, fun j h1 h2 => by omega, fun _ => by simpa using hm⟩
theorem ydL (S : List ByteArray) (n : Nat) : n ≤ nxtV S n ∧ nxtV S n ≤ n + S.length ∧ (∀ j, n ≤ j → j < nxtV S n → memB S (vS (j : Int)) = true) ∧ memB S (vS (nxtV S n : Int)) = false := by
 obtain ⟨h1, h2, h3, h4⟩ := yhh S (S.length + 1) n
 have hb : nxtV S n ≤ n + S.length := by
  have := yfi (S := S) (n := n) (k := nxtV S n - n) (fun j h5 h6 => h3 j h5 (by unfold nxtV at h6; omega))
  have h5 := ykv S (n + (nxtV S n - n))
  unfold nxtV at *
  omega
 exact ⟨h1, hb, h3, h4 (by unfold nxtV at hb; omega)⟩
def ybw (S : List ByteArray) (_p : List Int) (_i : Int) (_x : ByteArray) (n : Nat) : ByteArray × Nat := (vS (nxtV S n : Int), nxtV S n + 1)
def yed (S : List ByteArray) (m n : Nat) : Prop := n ≤ m + hits S n
theorem ykO {S : List ByteArray} {m n : Nat} (h : yed S m n) : yed S (m + 1) (nxtV S n + 1) := by
 obtain ⟨h4, _, h5, _⟩ := ydL S n
 unfold yed at *
 have := yfi (S := S) (n := n) (k := nxtV S n - n) (fun j h1 h2 => h5 j h1 (by omega))
 rw [show n + (nxtV S n - n) = nxtV S n by omega] at this
 have h7 := yhi S (nxtV S n)
 omega
theorem yf6 (l : List D) (n : Nat) : D.sizes (l.take n) + D.sizes (l.drop n) = D.sizes l := by
 conv => rhs; rw [← List.take_append_drop n l]
 generalize l.take n = a
 generalize l.drop n = b
 induction a with
 | nil => simp [D.sizes]
 | cons x a ih => simp [D.sizes]; omega
theorem yfB {f : Nat → D → Sub × D} (hf : ∀ i x, (f i x).2 = x) (l : List D) : ((mapI f l).map fun q => q.2.size).sum = D.sizes l := by
 have : ((mapI f l).map fun q => q.2.size) = l.map D.size := by
  apply List.ext_getElem?
  intro i
  rw [List.getElem?_map, zC, List.getElem?_map]
  cases l[i]? with
  | none => rfl
  | some x => simp [hf]
 rw [this]
 clear this
 induction l with
 | nil => rfl
 | cons x l ih => simp [D.sizes, ih]
theorem yla {l : List D} (h : l.length = 3) : D.sizes l = (l.headD dnone).size + (d1 l).size + (d2 l).size := by
 match l, h with
 | [a, b, c], _ => simp [D.sizes, d1, d2]; omega
theorem ysy {l : List D} (h : l.length = 4) : D.sizes l = (l.headD dnone).size + (d1 l).size + (d2 l).size + (l.getD 3 dnone).size := by
 match l, h with
 | [a, b, c, e], _ => simp [D.sizes, d1, d2]; omega
theorem yaN (d : D) : (ownS d).length + (if (yb d == 7) = true then ((d1 d.kids).kids.map fun x => (parS x).length).sum else 0) + ((subs d).map fun q => q.2.size).sum + (if yb d = 2 then 1 else 0) ≤ d.size := by
 have hsz := D.size_kids d
 by_cases h4 : yb d = 4 ∨ yb d = 8
 ·have ho : ownS d = [] := by unfold ownS; rw [if_neg (by simp; omega), if_neg (by simp; omega), if_neg (by simp; omega), if_neg (by simp; omega)]
  rw [zX h4, yfB (fun _ _ => rfl), ho, if_neg (by simp; omega), if_neg (by omega)]
  have := yf6 d.kids 1
  simp only [List.length_nil, Nat.zero_add, Nat.add_zero]; omega
 by_cases h10 : yb d = 10
 ·have ho : ownS d = [] := by unfold ownS; rw [if_neg (by simp; omega), if_neg (by simp; omega), if_neg (by simp; omega), if_neg (by simp; omega)]
  rw [Yr h10, yfB (fun _ _ => rfl), ho, if_neg (by simp; omega), if_neg (by omega)]
  simp; omega
 by_cases h5 : yb d = 5 ∨ yb d = 9
 ·have hl := (yZ d).1 (h5.elim .inl fun h => .inr (.inl h))
  have ho : ownS d = (d1 d.kids).kids.map D.text := by unfold ownS; rcases h5 with h | h <;> rw [h] <;> rfl
  rw [yU h5, ho, if_neg (by simp; omega), if_neg (by omega)]
  have h1 := D.kids_length_lt (d1 d.kids)
  have h2 := yla hl
  simp [subL]; omega
 by_cases h6 : yb d = 6
 ·have hl := (yZ d).2.1 h6
  have ho : ownS d = [(d1 d.kids).text] := by unfold ownS; rw [h6]; rfl
  rw [yM h6, ho, if_neg (by simp; omega), if_neg (by omega)]
  have h1 := D.size_pos (d1 d.kids)
  have h2 := ysy hl
  simp [subL] at h2 ⊢; omega
 by_cases h7 : yb d = 7
 ·have hl := (yZ d).1 (.inr (.inr h7))
  have h3 := (yZ d).2.2 h7
  have ho : ownS d = (d1 d.kids).kids.map fun x => x.head.text := by unfold ownS; rw [h7]; rfl
  have h2 := yla hl
  have hs1 := D.size_kids (d1 d.kids)
  have hm : ((mapI (subR d) (d1 d.kids).kids).map fun q => q.2.size).sum = ((d1 d.kids).kids.map fun x => (d2 x.kids).size).sum := by
   have : ((mapI (subR d) (d1 d.kids).kids).map fun q => q.2.size) = (d1 d.kids).kids.map fun x => (d2 x.kids).size := by
    apply List.ext_getElem?
    intro i
    rw [List.getElem?_map, zC, List.getElem?_map]
    cases (d1 d.kids).kids[i]? with
    | none => rfl
    | some x => rfl
   rw [this]
  rw [zd h7, ho, if_pos (by simpa using h7), if_neg (by omega), List.map_append, List.sum_append, hm]
  have key : ∀ l : List D, (∀ x, x ∈ l → x.kids.length = 3) → l.length + (l.map fun x => (parS x).length).sum + (l.map fun x => (d2 x.kids).size).sum ≤ D.sizes l := by
   intro l
   induction l with
   | nil => intro _; simp
   | cons x l ih =>
    intro h
    have ih := ih fun y hy => h y (by simp [hy])
    have hx := yla (h x (by simp))
    have hsx := D.size_kids x
    have hp : (parS x).length < (d1 x.kids).size := by unfold parS; rw [List.length_map]; exact D.kids_length_lt _
    simp only [List.length_cons, List.map_cons, List.sum_cons, D.sizes]
    omega
  have hk := key _ h3
  simp [subL] at hk ⊢; omega
 ·have hs : subs d = [] := Yb (by cases shape d <;> omega)
  have ho : ownS d = [] := by unfold ownS; rw [if_neg (by simp; omega), if_neg (by simp; omega), if_neg (by simp; omega), if_neg (by simp; omega)]
  rw [hs, ho, if_neg (by simp; omega)]
  have := D.size_pos d
  simp; split <;> omega
theorem ygQ : ∀ d : D, ncnt d ≤ d.size := by
 intro d
 induction d using D.indS with
 | h d ih =>
  rw [yce]
  have hb := yaN d
  have : ((subs d).map fun q => ncnt q.2).sum ≤ ((subs d).map fun q => q.2.size).sum := by
   have : ∀ l : List (Sub × D), (∀ q, q ∈ l → ncnt q.2 ≤ q.2.size) → (l.map fun q => ncnt q.2).sum ≤ (l.map fun q => q.2.size).sum := by
    intro l
    induction l with
    | nil => intro _; simp
    | cons q l ihl => intro h; have h1 := h q (by simp); have h2 := ihl fun x hx => h x (by simp [hx]); simp; omega
   exact this _ ih
  omega
theorem yfw (S : List ByteArray) (x : ByteArray) : (addS S x).length ≤ S.length + 1 := by unfold addS; split <;> simp
theorem yml : ∀ (d : D) (l S : List ByteArray), (sfree d l S).length ≤ S.length + d.size := by
 intro d
 induction d using D.indS with
 | h d ih =>
  intro l S
  rw [yat]
  split
  ·have := D.size_pos d
   split
   ·omega
   ·have := yfw S d.text; omega
  ·have hb := yaN d
   have : ∀ (r : List (Sub × D)) (S : List ByteArray), (∀ q, q ∈ r → ∀ l S, (sfree q.2 l S).length ≤ S.length + q.2.size) → (r.foldl (fun S q => sfree q.2 (q.1.ns.map (·.1) ++ l) S) S).length ≤ S.length + (r.map fun q => q.2.size).sum := by
    intro r
    induction r with
    | nil => intro S _; simp
    | cons q r ihr =>
     intro S h
     have h1 := h q (by simp) (q.1.ns.map (·.1) ++ l) S
     have h2 := ihr (sfree q.2 (q.1.ns.map (·.1) ++ l) S) fun x hx => h x (by simp [hx])
     simp only [List.foldl_cons, List.map_cons, List.sum_cons]; omega
   have h3 := this (subs d) S ih
   omega
def sCan (e : D) : D := (zZ (ybw (sfree e [] [])) e 0).1
end Go.Aw

namespace Go.Aw
open Go
def perms : Nat → List Nat → List (List Nat)
 | 0, _ => [[]]
 | n + 1, l => l.flatMap fun i => (perms n (l.erase i)).map (i :: ·)

end Go.Aw

namespace Go.Aw
open Go
section
variable {ρ : Option Nat} {P : Program} {ty : TyT} {V : View} {ops : Array Oper} {σ0 : Store} {N m : Nat} {Q : St → Prop}
def LinX (ops : Array Oper) : List Nat → Prop
 | [] => True
 | i :: l => (∀ k, k ∈ l → k ∉ precs ops ops.size i) ∧ LinX ops l
theorem yiH (hty : TyOk P ty) (hsz : ∀ t ti, ty t = some ti → ti.size ≠ 0) {mode : Region.Mode} (hg : zL ops mode = true) {g0 : Ghost} {w0 : World} {nx : Exit → Act → World → Prop} (hgl : V.gl = σ0.gl)
  (hnx : ∀ s' a' w', Q s' → Rel g0 σ0 w0 N s' a' w' → nx .normal a' w') : ∀ (fuel t : Nat) (listed : Array Bool) (acc : List Nat), Listed ops listed → (left ops listed).length = fuel →
   ∃ rest, Region.linearise.go mode ops fuel t listed acc = acc.reverse ++ rest ∧ rest.Perm (left ops listed) ∧ LinX ops rest ∧
    ∀ T L σ a w, DOps P ty V σ0 N ops ops.size Q rest T L σ → Compat V L σ → Rel g0 σ0 w0 N ⟨T, L, σ⟩ a w → opsW P ops nx rest a w := by
 have hself : ∀ {T T' : List (Nat × AV)} {L : List (List AV)} {σ : Store} {a : Act} {w : World}, Same T T' → Rel g0 σ0 w0 N ⟨T, L, σ⟩ a w → Rel g0 σ0 w0 N ⟨T', L, σ⟩ a w := by
  rintro T T' L σ a w hs ⟨g, h1, h2, h3, h4, h5⟩
  refine ⟨g, h1, h2, h3, h4, fun t => ?_⟩
  have := h5 t
  simp only at this ⊢
  rw [← hs t]; exact this
 intro fuel
 induction fuel with
 | zero =>
  intro t listed acc hl hlen
  have he : left ops listed = [] := List.eq_nil_of_length_eq_zero hlen
  refine ⟨[], by simp [Region.linearise.go], by rw [he], trivial, fun T L σ a w hd hc r => ?_⟩
  obtain ⟨T', h1, h2⟩ := hd
  exact hnx _ _ _ h2 (hself h1 r)
 | succ fuel ih =>
  intro t listed acc hl hlen
  have hne : left ops listed ≠ [] := by intro e; rw [e] at hlen; simp at hlen
  obtain ⟨i0, hi0, hp0⟩ := yfR hg hl hne
  simp only [Region.linearise.go]
  generalize hrs : ((List.range ops.size).filter fun i => !listed.getD i true && ((ops[i]?).map (·.after.all fun e => !Region.binds mode e || listed.getD e.on false)).getD false) = rs
  have hmem : ∀ i, i ∈ rs ↔ i ∈ left ops listed ∧ ∀ k, k ∈ edges ops mode i → listed.getD k false = true := by
   intro i; rw [← hrs]; exact yhc hl
  have hpos : 0 < rs.length := List.length_pos_iff.2 (fun e => by have := (hmem i0).2 ⟨hi0, hp0⟩; rw [e] at this; simp at this)
  have hlt : t % rs.length < rs.length := Nat.mod_lt _ hpos
  rw [List.getElem?_eq_getElem hlt]
  simp only
  have hi := (hmem _).1 (List.getElem_mem hlt)
  generalize rs[t % rs.length] = i at hi
  obtain ⟨hl', c1, c2, hc, hc', hc1, hcp⟩ := yeK hl hi.1 hi.2
  have hilt := ((ZC hl).1 hi.1).1
  obtain ⟨rest, h1, h2, h3, h4⟩ := ih (t / rs.length) (listed.setIfInBounds i true) (i :: acc) hl' (by rw [hc']; rw [hc] at hlen; simp at hlen ⊢; omega)
  refine ⟨i :: rest, by rw [h1]; simp, ?_, ⟨fun k hk hm => ?_, h3⟩, fun T L σ a w hd hcm r => ?_⟩
  ·rw [hc]
   rw [hc'] at h2
   exact (h2.cons i).trans (List.perm_middle.symm)
  ·have hkl := h2.mem_iff.1 hk
   have hkl' : k ∈ left ops listed := by rw [hc]; rw [hc'] at hkl; simp at hkl ⊢; rcases hkl with h | h <;> simp [h]
   have hpa : ∀ k, k ∈ edges ops .any i → listed.getD k false = true := by
    intro k hk
    refine hi.2 k ?_
    unfold edges at hk ⊢
    split at hk
    ·simp only [List.mem_map, List.mem_filter] at hk ⊢
     obtain ⟨e, ⟨he, hb⟩, rfl⟩ := hk
     exact ⟨e, ⟨he, yhp hb⟩, rfl⟩
    ·exact hk
   have q1 := ybc hl ops.size i hpa k hm
   have q2 := ((ZC (i := k) hl).1 hkl').2
   rw [q1] at q2; cases q2
  ·obtain ⟨oi, hoi⟩ : ∃ o, ops[i]? = some o := ⟨ops[i], by simp [hilt]⟩
   simp only [DOps, if_pos hilt] at hd
   obtain ⟨o, k1, k2, k3⟩ := hd
   exact yeS hty hsz k1 k2 k3 hcm hgl r fun T' L' σ' a' w' q qc qr => h4 T' L' σ' a' w' q qc qr
theorem yl1 {id : Nat} {QQ : Exit → St → Prop} {s : St} (hty : TyOk P ty) (hsz : ∀ t ti, ty t = some ti → ti.size ≠ 0) (V : View) (hg1 : zL ops .any = true) (hg2 : zL ops .text = true) (hg3 : zL ops .gc = true) (hgl : V.gl = s.σ.gl) (hc : (∀ (i : Nat) cs, V.L[i]? = some cs → cs ≠ [] → s.L[i]? = some cs) ∧ ∀ (o : Nat) ob, V.objs[o]? = some ob → ob ≠ .box [] → s.σ.objs[o]? = some ob)
  (h : ∀ l, l.Perm (List.range ops.size) → LinX ops l → DOps P ty V σ0 N ops ops.size (QQ .normal) l s.T s.L s.σ) : AWpR ρ P σ0 N (.region id ops true) QQ s := by
 rintro g0 w0 a w ⟨g, r⟩
 have hgl' : V.gl = σ0.gl := hgl.trans r.1.gl
 refine wpIn_region_draw fun t => opsW.wpIn _ ?_
 have hl0 : Listed ops (Array.replicate ops.size false) := by
  refine ⟨by simp, fun j hj => ?_⟩
  simp only [Array.getD_eq_getD_getElem?, Array.getElem?_replicate] at hj
  split at hj <;> simp at hj
 have hleft : left ops (Array.replicate ops.size false) = List.range ops.size := by
  simp only [left]
  refine List.filter_eq_self.2 (fun i hi => ?_)
  simp only [List.mem_range] at hi
  simp [Array.getD_eq_getD_getElem?, Array.getElem?_replicate, hi]
 have hr : RelG g0 σ0 w0 N g s a { w with drawn := w.drawn + 1 } := by
  have k := r.2.1.drewN (w' := { w with drawn := w.drawn + 1 }) rfl
  exact r.later (σ' := s.σ) (L' := s.L) k.2 (fun _ _ h => h) k.1 rfl rfl (fun _ _ => rfl) (Nat.le_refl _) rfl rfl rfl
 have go : ∀ (mode : Region.Mode) (t : Nat), zL ops mode = true → opsW P ops (lift g0 σ0 w0 N QQ) (Region.linearise mode ops t) a { w with drawn := w.drawn + 1 } := by
  intro mode t hg
  obtain ⟨rest, h1, h2, h2', h3⟩ := yiH (P := P) (V := V) (σ0 := σ0) (N := N) (Q := QQ .normal) hty hsz (mode := mode) hg (g0 := g0) (w0 := w0) (nx := lift g0 σ0 w0 N QQ) hgl' (fun s' a' w' q r' => ⟨s', q, r'⟩) ops.size t (Array.replicate ops.size false) [] hl0 (by rw [hleft]; simp)
  rw [Region.linearise, h1]
  rw [hleft] at h2
  exact h3 s.T s.L s.σ a _ (h rest h2 h2') ⟨hc.1, hc.2, hgl.symm⟩ ⟨g, hr⟩
 unfold Region.schedule
 split
 ·exact go .any t hg1
 ·split
  ·exact go .text _ hg2
  ·exact go .gc _ hg3
theorem yf2 : ∀ (l c : List Nat), l.Perm c → (∀ i, i ∈ l → i < m) → (∀ c1 i, (∃ c2, c = c1 ++ i :: c2) → ∀ k, k ∈ c1 → (∃ l1 l2, l = l1 ++ i :: l2 ∧ k ∈ l2) → ∃ ok oi, ops[k]? = some ok ∧ ops[i]? = some oi ∧ Zp ops ok oi = true) →
  ∀ {T : List (Nat × AV)} {L : List (List AV)} {σ : Store}, DOps P ty V σ0 N ops m Q c T L σ → DOps P ty V σ0 N ops m Q l T L σ
 | [], c, hp, _, _, T, L, σ, h => by have := hp.symm.eq_nil; subst this; exact h
 | i :: l, c, hp, hm, hs, T, L, σ, h => by
  have hic : i ∈ c := hp.mem_iff.1 (by simp)
  obtain ⟨c1, c2, rfl⟩ := List.append_of_mem hic
  have hlp : l.Perm (c1 ++ c2) := (hp.trans List.perm_middle).cons_inv
  have hmi := hm i (by simp)
  have hk1 : ∀ k, k ∈ c1 → ∃ ok oi, ops[k]? = some ok ∧ ops[i]? = some oi ∧ Zp ops ok oi = true := fun k hk =>
   hs c1 i ⟨c2, rfl⟩ k hk ⟨[], l, rfl, hlp.mem_iff.2 (by simp [hk])⟩
  have hfr : DOps P ty V σ0 N ops m Q (i :: (c1 ++ c2)) T L σ := by
   cases c1 with
   | nil => exact h
   | cons k0 c1 =>
    obtain ⟨_, oi, _, hoi, _⟩ := hk1 k0 (by simp)
    refine ycB hoi hmi (k0 :: c1) (fun k hk => ⟨hm k (by simp; exact .inr (hlp.mem_iff.2 (by simp at hk ⊢; rcases hk with h | h <;> simp [h]))), fun ok hok => ?_⟩) h
    obtain ⟨ok', oi', h1, h2, h3⟩ := hk1 k hk
    rw [hok] at h1; cases h1
    rw [hoi] at h2; cases h2
    exact h3
  simp only [DOps, if_pos hmi] at hfr ⊢
  obtain ⟨o, h1, h2, h3⟩ := hfr
  refine ⟨o, h1, h2, Zv (fun T L σ q => yf2 l (c1 ++ c2) hlp (fun j hj => hm j (by simp [hj])) (fun d1 j hd k hk hl => ?_) q) h3⟩
  obtain ⟨d2, hd⟩ := hd
  obtain ⟨l1, l2, hl1, hl2⟩ := hl
  rcases List.append_eq_append_iff.1 hd with ⟨a', ha1, ha2⟩ | ⟨a', ha1, ha2⟩
  ·-- c1 = short: d1 = c1 ++ a'
   refine hs (c1 ++ i :: a') j ⟨d2, by rw [ha2]; simp⟩ k (by rw [ha1] at hk; simp at hk ⊢; rcases hk with h | h <;> simp [h]) ⟨i :: l1, l2, by rw [hl1]; rfl, hl2⟩
  ·cases a' with
   | nil =>
    simp at ha1 ha2
    refine hs (c1 ++ [i]) j ⟨d2, by rw [← ha2]; simp⟩ k (by rw [ha1]; simp [hk]) ⟨i :: l1, l2, by rw [hl1]; rfl, hl2⟩
   | cons b a' =>
    simp at ha2
    obtain ⟨rfl, ha3⟩ := ha2
    refine hs d1 j ⟨a' ++ i :: c2, by rw [ha1]; simp⟩ k hk ⟨i :: l1, l2, by rw [hl1]; rfl, hl2⟩
def yen (ops : Array Oper) (bad : List (Nat × Nat)) : List Nat → Bool
 | [] => true
 | k :: c => (c.all fun i => (precs ops ops.size i).contains k || bad.contains (k, i) || (match ops[k]?, ops[i]? with | some ok, some oi => Zp ops ok oi | _, _ => false)) && yen ops bad c
theorem ygm {bad : List (Nat × Nat)} : ∀ {c : List Nat}, yen ops bad c = true → ∀ c1 i c2, c = c1 ++ i :: c2 → ∀ k, k ∈ c1 → k ∈ precs ops ops.size i ∨ (k, i) ∈ bad ∨ ∃ ok oi, ops[k]? = some ok ∧ ops[i]? = some oi ∧ Zp ops ok oi = true
 | [], _, c1, i, c2, he, k, hk => by simp at he
 | a :: c, h, c1, i, c2, he, k, hk => by
  simp only [yen, Bool.and_eq_true, List.all_eq_true] at h
  cases c1 with
  | nil => simp at hk
  | cons b c1 =>
   simp only [List.cons_append, List.cons.injEq] at he
   obtain ⟨rfl, rfl⟩ := he
   rcases List.mem_cons.1 hk with rfl | hk
   ·have := h.1 i (by simp)
    simp only [Bool.or_eq_true, List.contains_eq_mem, decide_eq_true_eq] at this
    rcases this with (h1 | h1) | h1
    ·exact .inl h1
    ·exact .inr (.inl h1)
    ·refine .inr (.inr ?_)
     split at h1
     ·exact ⟨_, _, ‹_›, ‹_›, h1⟩
     ·cases h1
   ·exact ygm h.2 c1 i c2 rfl k hk
theorem yky : ∀ {l : List Nat}, LinX ops l → ∀ l1 i l2, l = l1 ++ i :: l2 → ∀ k, k ∈ l2 → k ∉ precs ops ops.size i
 | [], _, l1, i, l2, he => by simp at he
 | a :: l, h, l1, i, l2, he => by
  cases l1 with
  | nil => simp at he; obtain ⟨rfl, rfl⟩ := he; exact h.1
  | cons b l1 => simp at he; exact yky h.2 l1 i l2 he.2
theorem yrJ {l : List Nat} (hn : l.Nodup) {l1 l2 : List Nat} {i k : Nat} (he : l = l1 ++ i :: l2) (hk : k ∈ l2) : l.idxOf i < l.idxOf k := by
 subst he
 have h1 := List.nodup_append.1 hn
 have hi1 : i ∉ l1 := fun h => h1.2.2 i h i (by simp) rfl
 have hk1 : k ∉ l1 := fun h => h1.2.2 k h k (by simp [hk]) rfl
 have hik : i ≠ k := fun e => by subst e; exact (List.nodup_cons.1 h1.2.1).1 hk
 rw [List.idxOf_append, List.idxOf_append, if_neg hi1, if_neg hk1, List.idxOf_cons_self, List.idxOf_cons]
 have : (i == k) = false := by simpa using hik
 rw [this]; simp
theorem yr3 : ∀ l : List Nat, (∀ i, i ∈ l → i < ops.size) → l.map (ops[·]?) = (l.filterMap (ops[·]?)).map some := by
 intro l
 induction l with
 | nil => intro _; rfl
 | cons i l ih =>
  intro hl
  have hi := hl i (by simp)
  have h5 := ih fun a ha => hl a (List.mem_cons_of_mem _ ha)
  rw [List.map_cons, List.filterMap_cons, h5, Array.getElem?_eq_getElem hi]
  rfl
theorem yk3 {id : Nat} {QQ : Exit → St → Prop} {s : St} (hty : TyOk P ty) (hsz : ∀ t ti, ty t = some ti → ti.size ≠ 0) (p q p' q' : Nat) (f : Bool → Bool → List Nat)
  (hok : (zL ops .any && zL ops .text && zL ops .gc && [true, false].all fun x => [true, false].all fun y => yen ops [if x then (p, q) else (q, p), if y then (p', q') else (q', p')] (f x y) && List.isPerm (f x y) (List.range ops.size)) = true)
  (h : ∀ x y, UL P ty (yaF s) N ops ((f x y).filterMap (ops[·]?)) (QQ .normal) s) : AWpR ρ P σ0 N (.region id ops true) QQ s := by
 simp only [Bool.and_eq_true, List.all_eq_true] at hok
 obtain ⟨⟨⟨g1, g2⟩, g3⟩, hall⟩ := hok
 refine yl1 hty hsz (yaF s) g1 g2 g3 rfl ⟨fun i cs h _ => h, fun o ob h _ => h⟩ fun l hp hl => ?_
 have hn : l.Nodup := hp.nodup_iff.2 List.nodup_range
 have hb : ∀ x : Bool, x ∈ [true, false] := fun x => by cases x <;> simp
 have hc := hall (decide (l.idxOf p < l.idxOf q)) (hb _) (decide (l.idxOf p' < l.idxOf q')) (hb _)
 generalize hx : decide (l.idxOf p < l.idxOf q) = x at hc
 generalize hy : decide (l.idxOf p' < l.idxOf q') = y at hc
 have hpc : (f x y).Perm (List.range ops.size) := List.isPerm_iff.1 hc.2
 have hlt : ∀ i, i ∈ f x y → i < ops.size := fun i hi => List.mem_range.1 (hpc.mem_iff.1 hi)
 refine yf2 l (f x y) (hp.trans hpc.symm) (fun i hi => List.mem_range.1 (hp.mem_iff.1 hi)) (fun c1 i hc1 k hk hl1 => ?_) (yg5 _ (f x y) s (yr3 _ hlt) hlt (h x y))
 obtain ⟨c2, hc1⟩ := hc1
 obtain ⟨l1, l2, e1, e2⟩ := hl1
 rcases ygm hc.1 c1 i c2 hc1 k hk with h1 | h1 | h1
 ·exact absurd h1 (yky hl l1 i l2 e1 k e2)
 ·exfalso
  have hlt := yrJ hn e1 e2
  simp only [List.mem_cons, List.not_mem_nil, or_false] at h1
  rcases h1 with h1 | h1
  ·cases x with
   | true => simp at hx h1; obtain ⟨rfl, rfl⟩ := h1; omega
   | false => simp at hx h1; obtain ⟨rfl, rfl⟩ := h1; omega
  ·cases y with
   | true => simp at hy h1; obtain ⟨rfl, rfl⟩ := h1; omega
   | false => simp at hy h1; obtain ⟨rfl, rfl⟩ := h1; omega
 ·exact h1
theorem yg9 : ∀ (n : Nat) (l r : List Nat), l.Perm r → r.length = n → l ∈ perms n r
 | 0, l, r, hp, hn => by
  have : r = [] := List.eq_nil_of_length_eq_zero hn
  subst this
  have := hp.eq_nil
  subst this
  simp [perms]
 | n + 1, [], r, hp, hn => by have := hp.length_eq; simp at this; omega
 | n + 1, i :: l, r, hp, hn => by
  have hi : i ∈ r := hp.mem_iff.1 (by simp)
  rw [perms]
  refine List.mem_flatMap.2 ⟨i, hi, List.mem_map.2 ⟨l, yg9 n l (r.erase i) ?_ ?_, rfl⟩⟩
  ·have := hp.erase i
   simpa using this
  ·rw [List.length_erase_of_mem hi]; omega
def yhV (ops : Array Oper) : List Nat → Bool
 | [] => true
 | i :: l => (l.all fun k => !(precs ops ops.size i).contains k) && yhV ops l
theorem yiT : ∀ {l : List Nat}, LinX ops l → yhV ops l = true
 | [], _ => rfl
 | i :: l, h => by
  simp only [yhV, Bool.and_eq_true, List.all_eq_true, Bool.not_eq_true', List.contains_eq_mem, decide_eq_false_iff_not]
  exact ⟨h.1, yiT h.2⟩
theorem yeB {id : Nat} {QQ : Exit → St → Prop} {s : St} (hty : TyOk P ty) (hsz : ∀ t ti, ty t = some ti → ti.size ≠ 0) (ls : List (List Nat))
  (hok : (zL ops .any && zL ops .text && zL ops .gc && ((perms ops.size (List.range ops.size)).all fun l => !yhV ops l || ls.contains l)) = true)
  (h : ∀ l, l ∈ ls → AOpsL P σ0 N ops (l.filterMap (ops[·]?)) (QQ .normal) s) : AWpR ρ P σ0 N (.region id ops true) QQ s := by
 simp only [Bool.and_eq_true, List.all_eq_true] at hok
 obtain ⟨⟨⟨g1, g2⟩, g3⟩, hall⟩ := hok
 rintro g0 w0 a w ⟨g, r⟩
 refine wpIn_region_draw fun t => opsW.wpIn _ ?_
 have hl0 : Listed ops (Array.replicate ops.size false) := by
  refine ⟨by simp, fun j hj => ?_⟩
  simp only [Array.getD_eq_getD_getElem?, Array.getElem?_replicate] at hj
  split at hj <;> simp at hj
 have hleft : left ops (Array.replicate ops.size false) = List.range ops.size := by
  simp only [left]
  refine List.filter_eq_self.2 (fun i hi => ?_)
  simp only [List.mem_range] at hi
  simp [Array.getD_eq_getD_getElem?, Array.getElem?_replicate, hi]
 have hr : RelG g0 σ0 w0 N g s a { w with drawn := w.drawn + 1 } := by
  have k := r.2.1.drewN (w' := { w with drawn := w.drawn + 1 }) rfl
  exact r.later (σ' := s.σ) (L' := s.L) k.2 (fun _ _ h => h) k.1 rfl rfl (fun _ _ => rfl) (Nat.le_refl _) rfl rfl rfl
 have go : ∀ (mode : Region.Mode) (t : Nat), zL ops mode = true → opsW P ops (lift g0 σ0 w0 N QQ) (Region.linearise mode ops t) a { w with drawn := w.drawn + 1 } := by
  intro mode t hg
  obtain ⟨rest, h1, h2, h2', _⟩ := yiH (P := P) (V := yaF s) (σ0 := σ0) (N := N) (Q := fun _ => False) hty hsz (mode := mode) hg (g0 := g0) (w0 := w0) (nx := lift g0 σ0 w0 N QQ) r.1.gl (fun s' a' w' q r' => q.elim) ops.size t (Array.replicate ops.size false) [] hl0 (by rw [hleft]; simp)
  rw [Region.linearise, h1]
  rw [hleft] at h2
  have hm := yg9 ops.size rest (List.range ops.size) h2 (by simp)
  have := hall rest hm
  simp only [yiT h2', Bool.not_true, Bool.false_or, List.contains_eq_mem, decide_eq_true_eq] at this
  have hL := h rest this
  refine hL rest ?_ g0 w0 a _ (lift g0 σ0 w0 N QQ) ⟨g, hr⟩ (fun s' a' w' q r' => ⟨s', q, r'⟩)
  have hlt : ∀ i, i ∈ rest → i < ops.size := fun i hi => List.mem_range.1 (h2.mem_iff.1 hi)
  have key : ∀ l : List Nat, (∀ i, i ∈ l → i < ops.size) → l.map (ops[·]?) = (l.filterMap (ops[·]?)).map some := by
   intro l
   induction l with
   | nil => intro _; rfl
   | cons i l ih =>
    intro hl
    have hi := hl i (by simp)
    have h5 := ih fun a ha => hl a (List.mem_cons_of_mem _ ha)
    rw [List.map_cons, List.filterMap_cons, h5, Array.getElem?_eq_getElem hi]
    rfl
  exact key rest hlt
 unfold Region.schedule
 split
 ·exact go .any t g1
 ·split
  ·exact go .text _ g2
  ·exact go .gc _ g3
end
end Go.Aw

namespace Go.Aw
open Go
def spS (i : Int) : ByteArray := ⟨#[32]⟩ ++ Yd i
def bkK (p : List Int) (n : Int) (k : Nat) : ByteArray := (p.take k).foldl (fun s i => s ++ spS i) (Yd n)
def bkS (p : List Int) (n : Int) : ByteArray := bkK p n p.length
theorem yc1 (p : List Int) (n : Int) : bkK p n 0 = Yd n := rfl
theorem yi3 {p : List Int} {n : Int} {k : Nat} {i : Int} (h : p[k]? = some i) : bkK p n (k + 1) = bkK p n k ++ spS i := by
 unfold bkK
 rw [yI h, List.foldl_append]; rfl
theorem yor {p : List Int} {n : Int} (hn : -9223372036854775808 ≤ n ∧ n ≤ 9223372036854775807) (hp : ∀ j, j ∈ p → 0 ≤ j ∧ j ≤ 1000000000) : ∀ k, k ≤ p.length → (bkK p n k).size ≤ 21 + 22 * k := by
 intro k
 induction k with
 | zero => intro _; rw [yc1]; have := ZW hn.1 hn.2; omega
 | succ k ih =>
  intro hk
  have hx : p[k]? = some (p[k]'(by omega)) := by simp
  have hj := hp _ (List.mem_of_getElem? hx)
  rw [yi3 hx]
  have h1 := ih (by omega)
  have h2 := ZW (n := p[k]'(by omega)) (by omega) (by omega)
  have h3 : (spS (p[k]'(by omega))).size = 1 + (Yd (p[k]'(by omega))).size := by unfold spS; rw [ByteArray.size_append]; rfl
  rw [ByteArray.size_append]; omega
mutual
def symS : D → List ByteArray → List ByteArray
 | .mk k _ t l, S => yX l (if k = 2 then addS S t else S)
def yX : List D → List ByteArray → List ByteArray
 | [], S => S
 | d :: l, S => yX l (symS d S)
end
theorem ybP : ∀ (l : List D) (S : List ByteArray), yX l S = l.foldl (fun S d => symS d S) S
 | [], S => rfl
 | d :: l, S => by rw [yX, ybP l]; rfl
theorem ykb (d : D) (S : List ByteArray) : symS d S = yX d.kids (if d.kind = 2 then addS S d.text else S) := by cases d; rfl
theorem ylp {l : List D} {k : Nat} {x : D} {S : List ByteArray} (h : l[k]? = some x) : yX (l.take (k + 1)) S = yX x.kids (if x.kind = 2 then addS (yX (l.take k) S) x.text else yX (l.take k) S) := by
 rw [ybP, yI h, List.foldl_append, List.foldl_cons, List.foldl_nil, ykb, ← ybP]
theorem yfo (d : D) : ∀ S, (symS d S).length ≤ S.length + d.size := by
 induction d using D.ind with
 | _ k n t l ih =>
  intro S
  rw [ykb]
  show (yX l (if k = 2 then addS S t else S)).length ≤ _
  have h0 : (if k = 2 then addS S t else S).length ≤ S.length + 1 := by
   split
   ·exact yfw _ _
   ·omega
  generalize (if k = 2 then addS S t else S) = R at h0
  have : ∀ l : List D, (∀ x, x ∈ l → ∀ S, (symS x S).length ≤ S.length + x.size) → ∀ R, (yX l R).length ≤ R.length + D.sizes l := by
   intro l
   induction l with
   | nil => intro _ R; simp [yX]
   | cons x l ihl =>
    intro h R
    have h1 := h x (by simp) R
    have h2 := ihl (fun y hy => h y (by simp [hy])) (symS x R)
    simp only [yX, D.sizes]; omega
  have h1 := this l ih R
  simp only [D.size]; omega
theorem ylQ (l : List D) (S : List ByteArray) : (yX l S).length ≤ S.length + D.sizes l := by
 have := yfo (.mk 0 0 ⟨#[]⟩ l) S
 induction l generalizing S with
 | nil => simp [yX]
 | cons x l ih =>
  have h1 := yfo x S
  have h2 := ih (symS x S) (yfo _ _)
  simp only [yX, D.sizes]; omega
def frS (S : List ByteArray) (n : Nat) : ByteArray := vS (nxtV S n : Int)
def sbTo (inn arn : List ByteArray) (p : List Int) (i : Int) (x : ByteArray) (S : List ByteArray) : ByteArray × List ByteArray :=
 if (memB inn x && memB arn (bkS p i)) = true then (frS S 0, addS S (frS S 0)) else (x, S)
theorem yoF (inn arn : List ByteArray) (p : List Int) (i : Int) (x : ByteArray) (S : List ByteArray) : (sbTo inn arn p i x S).2.length ≤ S.length + 1 := by
 unfold sbTo
 split
 ·exact yfw _ _
 ·exact Nat.le_succ _
end Go.Aw

namespace Go.Aw
open Go
section
variable {β : Type} {S : Type} (eb : β → PV)
variable (nam : D → List Int → List ByteArray → Int → S → List β × S) (vari : D → List Int → List (ByteArray × β) → S → S)
def fk : D → List Int → List (ByteArray × β) → S → S :=
 scata (fun d rs p sc s =>
  if (yb d == 2) = true then vari d p sc s
  else if (yb d == 5 || yb d == 9) = true then
   match rs with
   | [q] => let r := nam d p (ownS d) 0 s; q.2 (p ++ q.1.p) (yw sc (ownS d) r.1) r.2
   | _ => s
  else if (yb d == 6) = true then
   match rs with
   | [q, q'] => let r := nam d p (ownS d) 0 s; q'.2 (p ++ q'.1.p) (yw sc (ownS d) r.1) (q.2 (p ++ q.1.p) sc r.2)
   | _ => s
  else if (yb d == 7) = true then
   let r := nam d p (ownS d) 0 s
   let inn := yw sc (ownS d) r.1
   let s' := ((d1 d.kids).kids.zip rs).zipIdx.foldl (fun s q =>
    let r2 := nam d p (parS q.1.1) (yR (d1 d.kids).kids q.2) s
    q.1.2.2 (p ++ q.1.2.1.p) (yw inn (parS q.1.1) r2.1) r2.2) r.2
   match rs.getLast? with
   | some q => q.2 (p ++ q.1.p) inn s'
   | none => s'
  else rs.foldl (fun s q => q.2 (p ++ q.1.p) sc s) s)
theorem yfZ (d : D) (p : List Int) (sc : List (ByteArray × β)) (s : S) : fk nam vari d p sc s =
  if (yb d == 2) = true then vari d p sc s
  else if (yb d == 5 || yb d == 9) = true then
   match (subs d).map fun q => (q.1, fk nam vari q.2) with
   | [q] => let r := nam d p (ownS d) 0 s; q.2 (p ++ q.1.p) (yw sc (ownS d) r.1) r.2
   | _ => s
  else if (yb d == 6) = true then
   match (subs d).map fun q => (q.1, fk nam vari q.2) with
   | [q, q'] => let r := nam d p (ownS d) 0 s; q'.2 (p ++ q'.1.p) (yw sc (ownS d) r.1) (q.2 (p ++ q.1.p) sc r.2)
   | _ => s
  else if (yb d == 7) = true then
   let r := nam d p (ownS d) 0 s
   let inn := yw sc (ownS d) r.1
   let s' := ((d1 d.kids).kids.zip ((subs d).map fun q => (q.1, fk nam vari q.2))).zipIdx.foldl (fun s q =>
    let r2 := nam d p (parS q.1.1) (yR (d1 d.kids).kids q.2) s
    q.1.2.2 (p ++ q.1.2.1.p) (yw inn (parS q.1.1) r2.1) r2.2) r.2
   match ((subs d).map fun q => (q.1, fk nam vari q.2)).getLast? with
   | some q => q.2 (p ++ q.1.p) inn s'
   | none => s'
  else ((subs d).map fun q => (q.1, fk nam vari q.2)).foldl (fun s q => q.2 (p ++ q.1.p) sc s) s := by
 show scata (β := List Int → List (ByteArray × β) → S → S) _ d p sc s = _
 rw [ZB]; rfl
theorem ykd {d : D} {p : List Int} {sc : List (ByteArray × β)} {s : S} (h : yb d = 2) : fk nam vari d p sc s = vari d p sc s := by
 rw [yfZ, if_pos (by simpa using h)]
theorem ypf {d : D} {p : List Int} {sc : List (ByteArray × β)} {s : S} (h : yb d = 5 ∨ yb d = 9) :
  fk nam vari d p sc s = fk nam vari (d2 d.kids) (p ++ [2]) (yw sc (ownS d) (nam d p (ownS d) 0 s).1) (nam d p (ownS d) 0 s).2 := by
 rw [yfZ, if_neg (by simp; omega), if_pos (by simpa using h), yU h]; rfl
theorem ymj {d : D} {p : List Int} {sc : List (ByteArray × β)} {s : S} (h : yb d = 6) :
  fk nam vari d p sc s = fk nam vari (d.kids.getD 3 dnone) (p ++ [3]) (yw sc (ownS d) (nam d p (ownS d) 0 s).1) (fk nam vari (d2 d.kids) (p ++ [2]) sc (nam d p (ownS d) 0 s).2) := by
 rw [yfZ, if_neg (by simp; omega), if_neg (by simp; omega), if_pos (by simpa using h), yM h]; rfl
def fkd (d : D) (p : List Int) (inn : List (ByteArray × β)) (k : Nat) (s : S) : S :=
 ((d1 d.kids).kids.take k).zipIdx.foldl (fun s q =>
  let r := nam d p (parS q.1) (yR (d1 d.kids).kids q.2) s
  fk nam vari (d2 q.1.kids) (p ++ [1, (q.2 : Int), 2]) (yw inn (parS q.1) r.1) r.2) s
theorem ye3 {d : D} {p : List Int} {inn : List (ByteArray × β)} {k : Nat} {s : S} {x : D} (h : (d1 d.kids).kids[k]? = some x) :
  fkd nam vari d p inn (k + 1) s = fk nam vari (d2 x.kids) (p ++ [1, (k : Int), 2]) (yw inn (parS x) (nam d p (parS x) (yR (d1 d.kids).kids k) (fkd nam vari d p inn k s)).1) (nam d p (parS x) (yR (d1 d.kids).kids k) (fkd nam vari d p inn k s)).2 := by
 have hk := (List.getElem?_eq_some_iff.1 h).1
 unfold fkd
 rw [yI h, List.zipIdx_append, List.foldl_append]
 have e : ([x] : List D).zipIdx (0 + ((d1 d.kids).kids.take k).length) = [(x, k)] := by simp; omega
 rw [e]; rfl
theorem yl8 {d : D} {p : List Int} {sc : List (ByteArray × β)} {s : S} (h : yb d = 7) :
  fk nam vari d p sc s = fk nam vari (d2 d.kids) (p ++ [2]) (yw sc (ownS d) (nam d p (ownS d) 0 s).1) (fkd nam vari d p (yw sc (ownS d) (nam d p (ownS d) 0 s).1) (d1 d.kids).kids.length (nam d p (ownS d) 0 s).2) := by
 rw [yfZ, if_neg (by simp; omega), if_neg (by simp; omega), if_neg (by simp; omega), if_pos (by simpa using h), zd h]
 simp only [List.map_append, List.map_cons, List.map_nil, List.getLast?_append, List.getLast?_singleton, Option.or_some, Option.some_or, yex, List.map_map]
 rw [show ((fun (q : Sub × D) => (q.1, fk nam vari q.2)) ∘ fun (q : D × Nat) => subR d q.2 q.1) = fun q => ((fun (x : D) (i : Nat) => ((subR d i x).1, fk nam vari (subR d i x).2)) q.1 q.2) from rfl]
 rw [ycz (fun (x : D) (i : Nat) => ((subR d i x).1, fk nam vari (subR d i x).2)), ybK, List.foldl_map]
 unfold fkd
 rw [List.take_length]; rfl
def fks (d : D) (p : List Int) (sc : List (ByteArray × β)) (k : Nat) (s : S) : S := ((subs d).take k).foldl (fun s q => fk nam vari q.2 (p ++ q.1.p) sc s) s
theorem yfm {d : D} {p : List Int} {sc : List (ByteArray × β)} {k : Nat} {s : S} {q : Sub × D} (h : (subs d)[k]? = some q) : fks nam vari d p sc (k + 1) s = fk nam vari q.2 (p ++ q.1.p) sc (fks nam vari d p sc k s) := by
 unfold fks
 rw [yI h, List.foldl_append]; rfl
theorem ykc {d : D} {p : List Int} {sc : List (ByteArray × β)} {s : S} (h : yb d ≠ 2 ∧ yb d ≠ 5 ∧ yb d ≠ 9 ∧ yb d ≠ 6 ∧ yb d ≠ 7) : fks nam vari d p sc (subs d).length s = fk nam vari d p sc s := by
 rw [yfZ, if_neg (by simp; omega), if_neg (by simp; omega), if_neg (by simp; omega), if_neg (by simp; omega), List.foldl_map]
 unfold fks
 rw [List.take_length]
end
def kyS (p : List Int) (ns : List ByteArray) (n : Int) : List ByteArray := (List.range ns.length).map fun (i : Nat) => bkS p (n + (i : Int))
theorem ygL (p : List Int) (ns : List ByteArray) (n : Int) : (kyS p ns n).length = ns.length := by simp [kyS]
theorem yoj (p : List Int) (ns : List ByteArray) (n : Int) {k : Nat} (h : k < ns.length) : (kyS p ns n).take (k + 1) = (kyS p ns n).take k ++ [bkS p (n + (k : Int))] := by
 apply yI
 simp [kyS, h]
abbrev FSt := List (List Int) × List ByteArray
def fndN (_d : D) (p : List Int) (ns : List ByteArray) (n : Int) (s : FSt) : List ByteArray × FSt := (kyS p ns n, s)
def fndV (x : ByteArray) (d : D) (p : List Int) (sc : List (ByteArray × ByteArray)) (s : FSt) : FSt :=
 if (decide (d.text = x) && !(zl sc x).isSome) = true then (s.1 ++ [p], (sc.map (·.2)).foldl addS s.2) else s
def fnd (x : ByteArray) : D → List Int → List (ByteArray × ByteArray) → FSt → FSt := fk fndN (fndV x)
theorem ycY (x : ByteArray) : ∀ (d : D) (p : List Int) (sc : List (ByteArray × ByteArray)) (s : FSt), s.1.length ≤ (fnd x d p sc s).1.length := by
 intro d
 unfold fnd
 induction d using D.indS with
 | h d ih =>
  intro p sc s
  by_cases h2 : yb d = 2
  ·rw [ykd _ _ h2]; unfold fndV; split
   ·simp
   ·exact Nat.le_refl _
  by_cases h5 : yb d = 5 ∨ yb d = 9
  ·rw [ypf _ _ h5]
   have hq : subL d 2 (d2 d.kids) ∈ subs d := by rw [yU h5]; simp
   exact ih _ hq _ _ s
  by_cases h6 : yb d = 6
  ·rw [ymj _ _ h6]
   have hq : (⟨[2], []⟩, d2 d.kids) ∈ subs d := by rw [yM h6]; simp
   have hq3 : subL d 3 (d.kids.getD 3 dnone) ∈ subs d := by rw [yM h6]; simp
   exact Nat.le_trans (ih _ hq (p ++ [2]) sc s) (ih _ hq3 _ _ _)
  by_cases h7 : yb d = 7
  ·rw [yl8 _ _ h7]
   have hq : subL d 2 (d2 d.kids) ∈ subs d := by rw [zd h7]; simp
   refine Nat.le_trans ?_ (ih _ hq _ _ _)
   have key : ∀ (inn : List (ByteArray × ByteArray)) (k : Nat), k ≤ (d1 d.kids).kids.length → s.1.length ≤ (fkd fndN (fndV x) d p inn k s).1.length := by
    intro inn k
    induction k with
    | zero => intro _; exact Nat.le_refl _
    | succ k ihk =>
     intro hk
     have hx : (d1 d.kids).kids[k]? = some ((d1 d.kids).kids[k]'(by omega)) := by simp
     rw [ye3 _ _ hx]
     have hm : subR d k ((d1 d.kids).kids[k]'(by omega)) ∈ subs d := by rw [zd h7]; exact List.mem_append_left _ (List.mem_of_getElem? (by rw [zC, hx]; rfl))
     exact Nat.le_trans (ihk (by omega)) (ih _ hm _ _ _)
   exact key _ _ (Nat.le_refl _)
  ·have hr : yb d ≠ 2 ∧ yb d ≠ 5 ∧ yb d ≠ 9 ∧ yb d ≠ 6 ∧ yb d ≠ 7 := by omega
   rw [← ykc fndN (fndV x) hr]
   have key : ∀ k, k ≤ (subs d).length → s.1.length ≤ (fks fndN (fndV x) d p sc k s).1.length := by
    intro k
    induction k with
    | zero => intro _; exact Nat.le_refl _
    | succ k ihk =>
     intro hk
     have hx : (subs d)[k]? = some ((subs d)[k]'(by omega)) := by simp
     rw [yfm _ _ hx]
     exact Nat.le_trans (ihk (by omega)) (ih _ (List.mem_of_getElem? hx) _ _ _)
   exact key _ (Nat.le_refl _)
theorem yoN (x : ByteArray) (d : D) (p : List Int) (inn : List (ByteArray × ByteArray)) (s : FSt) {j : Nat} : ∀ {k : Nat}, j ≤ k → k ≤ (d1 d.kids).kids.length → (fkd fndN (fndV x) d p inn j s).1.length ≤ (fkd fndN (fndV x) d p inn k s).1.length := by
 intro k hjk
 induction hjk with
 | refl => intro _; exact Nat.le_refl _
 | @step k hjk ih =>
  intro hk
  have hk : k + 1 ≤ (d1 d.kids).kids.length := hk
  have hx : (d1 d.kids).kids[k]? = some ((d1 d.kids).kids[k]'(by omega)) := by simp
  rw [ye3 _ _ hx]
  exact Nat.le_trans (ih (by omega)) (ycY x _ _ _ _)
theorem yoX (x : ByteArray) (d : D) (p : List Int) (sc : List (ByteArray × ByteArray)) (s : FSt) {j : Nat} : ∀ {k : Nat}, j ≤ k → k ≤ (subs d).length → (fks fndN (fndV x) d p sc j s).1.length ≤ (fks fndN (fndV x) d p sc k s).1.length := by
 intro k hjk
 induction hjk with
 | refl => intro _; exact Nat.le_refl _
 | @step k hjk ih =>
  intro hk
  have hk : k + 1 ≤ (subs d).length := hk
  have hx : (subs d)[k]? = some ((subs d)[k]'(by omega)) := by simp
  rw [yfm _ _ hx]
  exact Nat.le_trans (ih (by omega)) (ycY x _ _ _ _)
theorem yoP {d : D} (hd : d.size ≤ 100000000) {q : Sub × D} (h : q ∈ subs d) : ∀ j, j ∈ q.1.p → 0 ≤ j ∧ j ≤ 1000000000 := yej hd (D.sub_subs h)
def foU (opl om tk : Nat) (s : FSt) : List (Nat × AObj) := [(opl, .box [.acc (s.1.map wPV) tk]), (om, .map (tK s.2) (tV s.2))]
def foS (opl om tk : Nat) (Y : Store) (s : FSt) : Store := ⟨Y.gl, yK Y.objs (foU opl om tk s), Y.toks.modify tk fun t => { t with n := s.1.length }⟩
def FHas (T : TypeId) (opl om tk : Nat) (Y : Store) (s : FSt) : Prop := HasU Y (foU opl om tk s) ∧ Y.toks[tk]? = some ⟨s.1.length, T, 1⟩
def foX (x : ByteArray) (ox opl oar om ov : Nat) (vf : FuncId) : List (Nat × AObj) := [(ox, .box [.pv (.str x)]), (oar, .box [.map om]), (ov, .box [.func (.func vf) [.ptr ox 0, .ptr opl 0, .ptr oar 0, .ptr ov 0]])]
structure FnH (x : ByteArray) (ox opl oar om ov : Nat) (vf : FuncId) : Prop where
 hne : opl ≠ om
 hX : ∀ q, q ∈ foX x ox opl oar om ov vf → q.1 ∉ [opl, om]
section
variable {T : TypeId} {x : ByteArray} {ox opl oar om ov tk : Nat} {vf : FuncId} {Y : Store} {s s2 : FSt}
theorem ZE : (foU opl om tk s).map (·.1) = [opl, om] := rfl
theorem FHas.lt (h : FHas T opl om tk Y s) {i : Nat} (hi : i ∈ [opl, om]) : i < Y.objs.length := by
 rw [← ZE (tk := tk) (s := s)] at hi
 obtain ⟨q, hq, rfl⟩ := List.mem_map.1 hi
 exact h.1.lt hq
theorem FHas.ltk (h : FHas T opl om tk Y s) : tk < Y.toks.length := (List.getElem?_eq_some_iff.1 h.2).1
theorem zj : (foS opl om tk Y s).gl = Y.gl := rfl
theorem ycJ : (foS opl om tk Y s).objs = (updS Y (foU opl om tk s)).objs := rfl
theorem yab {i : Nat} (h : i ∉ [opl, om]) : (foS opl om tk Y s).objs[i]? = Y.objs[i]? := zr h
theorem yhl {α : Type} {l : List α} {k : Nat} {x : α} (f : α → α) (h : l[k]? = some x) : l.modify k f = l.set k (f x) := by
 apply List.ext_getElem?
 intro i
 rw [List.getElem?_modify, List.getElem?_set]
 have hl := (List.getElem?_eq_some_iff.1 h).1
 split
 ·subst_vars
  rw [h]; rfl
 ·cases l[i]? <;> rfl
theorem yft {n : Nat} (h : Y.toks[tk]? = some ⟨n, T, 1⟩) : (foS opl om tk Y s).toks = Y.toks.set tk ⟨s.1.length, T, 1⟩ := yhl _ h
theorem ych {n : Nat} (h : Y.toks[tk]? = some ⟨n, T, 1⟩) : foS opl om tk Y s = ⟨Y.gl, yK Y.objs (foU opl om tk s), Y.toks.set tk ⟨s.1.length, T, 1⟩⟩ := by
 show (⟨Y.gl, yK Y.objs (foU opl om tk s), (foS opl om tk Y s).toks⟩ : Store) = _
 rw [yft h]
theorem FHas.self (h : FHas T opl om tk Y s) : foS opl om tk Y s = Y := by
 rw [ych h.2, yaC h.1]
 have : Y.toks.set tk ⟨s.1.length, T, 1⟩ = Y.toks := by
  apply List.ext_getElem?
  intro i
  rw [List.getElem?_set]
  split
  ·subst_vars
   split
   ·exact h.2.symm
   ·rename_i hlt; exact absurd h.ltk hlt
  ·rfl
 rw [this]
theorem FHas.upd (hne : opl ≠ om) (h : FHas T opl om tk Y s) : FHas T opl om tk (foS opl om tk Y s2) s2 := by
 refine ⟨?_, ?_⟩
 ·intro q hq
  rw [ycJ]
  exact ycN (by rw [ZE]; simp [hne]) (fun q hq => h.lt (by rw [← ZE (tk := tk) (s := s2)]; exact List.mem_map.2 ⟨q, hq, rfl⟩)) q hq
 ·rw [yft h.2, List.getElem?_set_self h.ltk]
theorem FHas.app (h : FHas T opl om tk Y s) (B : List AObj) : FHas T opl om tk ⟨Y.gl, Y.objs ++ B, Y.toks⟩ s := ⟨h.1.app B _, h.2⟩
theorem yg0 (hne : opl ≠ om) {n : Nat} (h : Y.toks[tk]? = some ⟨n, T, 1⟩) : foS opl om tk (foS opl om tk Y s) s2 = foS opl om tk Y s2 := by
 have hl := (List.getElem?_eq_some_iff.1 h).1
 have h2 : (foS opl om tk Y s).toks[tk]? = some ⟨s.1.length, T, 1⟩ := by rw [yft h, List.getElem?_set_self hl]
 rw [ych h2, ych h]
 simp only
 rw [ych h]
 rw [yaR (by rw [ZE]; simp [hne]) (by rw [ZE, ZE]; exact fun _ h => h), List.set_set]
theorem FHas.cut (h : FHas T opl om tk Y s) (B : List AObj) {no nt : Nat} (hno : no = Y.objs.length) (hnt : nt = Y.toks.length) : (foS opl om tk ⟨Y.gl, Y.objs ++ B, Y.toks⟩ s2).cut no nt = foS opl om tk Y s2 := by
 subst hno; subst hnt
 have hk : (⟨Y.gl, Y.objs ++ B, Y.toks⟩ : Store).toks[tk]? = some ⟨s.1.length, T, 1⟩ := h.2
 rw [ych hk, ych h.2]
 have hlt : ∀ q, q ∈ foU opl om tk s2 → q.1 < Y.objs.length := fun q hq => h.lt (by rw [← ZE (tk := tk) (s := s2)]; exact List.mem_map.2 ⟨q, hq, rfl⟩)
 rw [ycP hlt]
 unfold Store.cut
 simp only
 rw [List.take_left' (zt _ _), List.take_of_length_le (by simp)]
theorem yee (H : FnH x ox opl oar om ov vf) (h : HasU Y (foX x ox opl oar om ov vf)) : HasU (foS opl om tk Y s) (foX x ox opl oar om ov vf) := fun q hq => by
 rw [yab (H.hX q hq)]; exact h q hq
theorem yqE {r : Nat} {a b : AObj} (h : r ∉ [opl, om]) (ha : Y.objs[r]? = some a) : { foS opl om tk { Y with objs := Y.objs.set r b } s with objs := ((foS opl om tk { Y with objs := Y.objs.set r b } s).objs).set r a } = foS opl om tk Y s := by
 have h1 := yfs (X := Y) (V := foU opl om tk s) (b := b) h ha
 have h2 := congrArg Store.objs h1
 simp only at h2
 have h3 : (foS opl om tk { Y with objs := Y.objs.set r b } s).toks = (foS opl om tk Y s).toks := rfl
 show (⟨(foS opl om tk { Y with objs := Y.objs.set r b } s).gl, ((foS opl om tk { Y with objs := Y.objs.set r b } s).objs).set r a, (foS opl om tk { Y with objs := Y.objs.set r b } s).toks⟩ : Store) = ⟨(foS opl om tk Y s).gl, (foS opl om tk Y s).objs, (foS opl om tk Y s).toks⟩
 rw [h3, zj, zj, ycJ, ycJ, h2]
theorem FHas.set (h : FHas T opl om tk Y s) {i : Nat} {ob : AObj} (hi : i ∉ [opl, om]) : FHas T opl om tk { Y with objs := Y.objs.set i ob } s := ⟨yas h.1 hi, h.2⟩
theorem yrI {P : Program} {f : FuncId} {args : List AV} {r0 : AV} (hh : FHas T opl om tk Y s) (hrn : WVt Y.objs.length Y.toks.length 0 r0 r0)
  (h : ACalls P f args Y fun r σ' => r = r0 ∧ σ'.cut Y.objs.length Y.toks.length = foS opl om tk Y s2) : ACalls P f args Y fun r σ' => r = r0 ∧ σ' = foS opl om tk Y s2 := by
 refine h.less fun r σ' ⟨h1, h2⟩ => ⟨_, _, r0, by subst h1; exact hrn, Nat.le_refl _, Nat.le_refl _, fun ob hob => ?_, rfl, h2⟩
 have : σ'.objs.take Y.objs.length = (foS opl om tk Y s2).objs := congrArg Store.objs h2
 rw [this, ycJ] at hob
 rcases ZT hob with h | ⟨q, hq, rfl⟩
 ·exact .inl h
 ·refine .inr ?_
  have h3 := hh.ltk
  simp only [foU, List.mem_cons, List.not_mem_nil, or_false] at hq
  rcases hq with rfl | rfl
  ·simp [AObj.clo, AV.clos, AV.clo, h3]
  ·rfl
end
section
variable {x : ByteArray} {d : D} {p : List Int} {sc : List (ByteArray × ByteArray)} {s : FSt}
def fndD (x : ByteArray) (d : D) (p : List Int) (inn : List (ByteArray × ByteArray)) (k : Nat) (s : FSt) : FSt := fkd fndN (fndV x) d p inn k s
def fndS (x : ByteArray) (d : D) (p : List Int) (sc : List (ByteArray × ByteArray)) (k : Nat) (s : FSt) : FSt := fks fndN (fndV x) d p sc k s
theorem yij (h : yb d = 2) : fnd x d p sc s = if (decide (d.text = x) && !(zl sc x).isSome) = true then (s.1 ++ [p], (sc.map (·.2)).foldl addS s.2) else s := ykd _ _ h
theorem yiy (h : yb d = 5 ∨ yb d = 9) : fnd x d p sc s = fnd x (d2 d.kids) (p ++ [2]) (yw sc (ownS d) (kyS p (ownS d) 0)) s := ypf _ _ h
theorem ykr (h : yb d = 6) : fnd x d p sc s = fnd x (d.kids.getD 3 dnone) (p ++ [3]) (yw sc (ownS d) (kyS p (ownS d) 0)) (fnd x (d2 d.kids) (p ++ [2]) sc s) := ymj _ _ h
theorem ykA (h : yb d = 7) : fnd x d p sc s = fnd x (d2 d.kids) (p ++ [2]) (yw sc (ownS d) (kyS p (ownS d) 0)) (fndD x d p (yw sc (ownS d) (kyS p (ownS d) 0)) (d1 d.kids).kids.length s) := yl8 _ _ h
theorem ygV {inn : List (ByteArray × ByteArray)} {k : Nat} {y : D} (h : (d1 d.kids).kids[k]? = some y) : fndD x d p inn (k + 1) s = fnd x (d2 y.kids) (p ++ [1, (k : Int), 2]) (yw inn (parS y) (kyS p (parS y) (yR (d1 d.kids).kids k))) (fndD x d p inn k s) := ye3 _ _ h
theorem ydS {k : Nat} {q : Sub × D} (h : (subs d)[k]? = some q) : fndS x d p sc (k + 1) s = fnd x q.2 (p ++ q.1.p) sc (fndS x d p sc k s) := yfm _ _ h
theorem ye8 (h : yb d ≠ 2 ∧ yb d ≠ 5 ∧ yb d ≠ 9 ∧ yb d ≠ 6 ∧ yb d ≠ 7) : fndS x d p sc (subs d).length s = fnd x d p sc s := ykc _ _ h
theorem ypk {inn : List (ByteArray × ByteArray)} {j k : Nat} (h1 : j ≤ k) (h2 : k ≤ (d1 d.kids).kids.length) : (fndD x d p inn j s).1.length ≤ (fndD x d p inn k s).1.length := yoN x d p inn s h1 h2
theorem ypS {j k : Nat} (h1 : j ≤ k) (h2 : k ≤ (subs d).length) : (fndS x d p sc j s).1.length ≤ (fndS x d p sc k s).1.length := yoX x d p sc s h1 h2
theorem ypZ {T : TypeId} {opl om tk : Nat} {Y : Store} {n : Nat} (hne : opl ≠ om) (h : Y.toks[tk]? = some ⟨n, T, 1⟩) (ho : opl < Y.objs.length) (l : List (List Int)) (R : List ByteArray) (hm : Y.objs[om]? = some (.map (tK R) (tV R))) :
  (⟨Y.gl, Y.objs.set opl (.box [.acc (l.map wPV) tk]), Y.toks.modify tk fun t => { t with n := l.length }⟩ : Store) = foS opl om tk Y (l, R) := by
 unfold foS foU
 simp only [yK]
 have : (Y.objs.set opl (.box [.acc (l.map wPV) tk])).set om (.map (tK R) (tV R)) = Y.objs.set opl (.box [.acc (l.map wPV) tk]) := by
  apply List.ext_getElem?
  intro i
  rw [List.getElem?_set]
  split
  ·subst_vars
   have := (List.getElem?_eq_some_iff.1 hm).1
   simp only [List.length_set, this, if_true]
   rw [List.getElem?_set_ne hne, hm]
  ·rfl
 rw [this]
theorem yoJ {opl om tk : Nat} {Y : Store} {l : List (List Int)} {R R2 : List ByteArray} : setS (foS opl om tk Y (l, R)) om R2 = foS opl om tk Y (l, R2) := by
 unfold foS foU setS
 simp only [yK, List.set_set]
end
theorem yak {p q : List Int} (h1 : ∀ j, j ∈ p → 0 ≤ j ∧ j ≤ 1000000000) (h2 : ∀ j, j ∈ q → 0 ≤ j ∧ j ≤ 1000000000) : ∀ j, j ∈ p ++ q → 0 ≤ j ∧ j ≤ 1000000000 := fun j hj => (List.mem_append.1 hj).elim (h1 j) (h2 j)
theorem yn7 {opl om tk : Nat} {A : List AObj} {g : List (Nat × PV)} {tks : List Tok} {a b c : AObj} {s : FSt} (h : A.length + 1 ∉ [opl, om]) :
  (⟨g, (foS opl om tk ⟨g, A ++ [a, b], tks⟩ s).objs.set (A.length + 1) c, (foS opl om tk ⟨g, A ++ [a, b], tks⟩ s).toks⟩ : Store) = foS opl om tk ⟨g, A ++ [a, c], tks⟩ s := by
 have key : (yK (A ++ [a, b]) (foU opl om tk s)).set (A.length + 1) c = yK (A ++ [a, c]) (foU opl om tk s) := by
  simp only [List.mem_cons, List.not_mem_nil, or_false, not_or] at h
  unfold foU
  simp only [yK]
  have h1 : opl ≠ A.length + 1 := fun e => h.1 e.symm
  have h2 : om ≠ A.length + 1 := fun e => h.2 e.symm
  rw [List.set_comm _ c h2, List.set_comm _ c h1]
  have e : (A ++ [a, b]).set (A.length + 1) c = A ++ [a, c] := by rw [List.set_append_right _ _ (by omega)]; simp
  rw [e]
 show (⟨g, (yK (A ++ [a, b]) (foU opl om tk s)).set (A.length + 1) c, tks.modify tk fun t => { t with n := s.1.length }⟩ : Store) = _
 rw [key]; rfl
end Go.Aw

namespace Go.Aw
open Go
section
variable {ρ : Option Nat} {P : Program} {σ0 : Store} {N : Nat} {s : St}
theorem ykV {c : Code} {Q : Exit → St → Prop} (i : Nat) (e : TypeId) (sz : Nat) (hi : s.σ.objs[i]? = some (.box [.pv .nils]))
  (k : AWpR ρ P σ0 N c Q { s with σ := ⟨s.σ.gl, s.σ.objs.set i (.box [.acc [] s.σ.toks.length]), s.σ.toks ++ [⟨0, e, sz⟩]⟩ }) : AWpR ρ P σ0 N c Q s := by
 rintro g0 w0 a w ⟨g, r⟩
 obtain ⟨i1, le1⟩ := r.2.1.adopt ⟨0, e, sz⟩
 have r' := r.later (σ' := { s.σ with toks := s.σ.toks ++ [⟨0, e, sz⟩] }) (L' := s.L) le1 (fun _ _ h => h) i1 rfl rfl (fun _ _ => rfl) (Nat.le_refl _) rfl rfl rfl
 refine k g0 w0 a w ⟨_, r'.setTell (i := i) (ob := .box [.pv .nils]) (ob' := .box [.acc [] s.σ.toks.length]) hi fun b hb => ?_⟩
 obtain ⟨h1, vs, el, h2, h3, h4, h5⟩ := hb
 refine ⟨fun x hx => ?_, vs, el, h2, h3, h4, fun j x v hx hv => ?_⟩
 ·rw [List.mem_singleton] at hx; subst hx; rfl
 ·cases j with
  | succ j => simp at hx
  | zero =>
   simp at hx; subst hx
   have h6 := h5 0 (.pv .nils) v rfl hv
   cases h6 with
   | pv h6 =>
    have h7 := h6.nils_inv
    subst h7
    exact .acc .empty (t := ⟨0, e, sz⟩) (by simp) (Nat.zero_le _) (by simp) (fun _ => .inr ⟨none, rfl⟩)
end
theorem ACalls.keepTo2 {P : Program} {f : FuncId} {args : List AV} {σ : Store} {r0 : AV} {Y : Store} (no nt : Nat) (h0 : σ.objs.length ≤ no) (h1 : σ.toks.length ≤ nt) (hc : ∀ ob, ob ∈ Y.objs → ob ∈ σ.objs ∨ ob.clo no nt 0 = true)
  (h : ACalls P f args σ fun r σ' => WVt no nt 0 r r0 ∧ σ'.cut no nt = Y) : ACalls P f args σ fun r σ' => r = r0 ∧ σ' = Y := by
 refine h.less fun r σ' ⟨h2, h3⟩ => ⟨_, _, r0, h2, h0, h1, fun ob hob => ?_, rfl, h3⟩
 have : σ'.objs.take no = Y.objs := congrArg Store.objs h3
 rw [this] at hob
 exact hc ob hob
theorem yn9 {α : Type} {l : List α} {a b c y : α} : (l ++ [a, b, c]).set (l.length + 1) y = l ++ [a, y, c] := by
 rw [List.set_append_right _ _ (by omega)]; simp
theorem yqH {T : TypeId} {A : List AObj} {g : List (Nat × PV)} {tks : List Tok} {a b c e : AObj} {s : FSt} :
  foS (A.length + 1) (A.length + 3) tks.length ⟨g, A ++ [a, b, c, .map [] [], e], tks ++ [⟨0, T, 1⟩]⟩ s = ⟨g, A ++ [a, .box [.acc (s.1.map wPV) tks.length], c, .map (tK s.2) (tV s.2), e], tks ++ [⟨s.1.length, T, 1⟩]⟩ := by
 unfold foS foU
 have e1 : ∀ x y : AObj, ((A ++ [a, b, c, .map [] [], e]).set (A.length + 1) x).set (A.length + 3) y = A ++ [a, x, c, y, e] := by
  intro x y
  rw [List.set_append_right _ _ (by omega), List.set_append_right _ _ (by omega)]; simp
 have e2 : ∀ f : Tok → Tok, (tks ++ [(⟨0, T, 1⟩ : Tok)]).modify tks.length f = tks ++ [f ⟨0, T, 1⟩] := by
  intro f
  rw [yhl f (x := (⟨0, T, 1⟩ : Tok)) (by simp)]; simp
 simp only [yK, e1, e2]
end Go.Aw

namespace Go.Aw
open Go
def AD.graft : AD → List Int → AD → AD
 | _, [], u => u
 | .mk k n t o l, i :: p, u => match l[i.toNat]? with
  | some c => .mk k n t o (l.set i.toNat (AD.graft c p u))
  | none => .mk k n t o l
def D.graft : D → List Int → D → D
 | _, [], u => u
 | .mk k n t l, i :: p, u => match l[i.toNat]? with
  | some c => .mk k n t (l.set i.toNat (D.graft c p u))
  | none => .mk k n t l
theorem AD.graft_dat : ∀ (p : List Int) (t u : AD), (t.graft p u).dat = t.dat.graft p u.dat
 | [], t, u => by cases t; rfl
 | i :: p, .mk k n tx o l, u => by
  simp only [AD.graft, AD.dat, D.graft, AD.dats_map, List.getElem?_map]
  cases h : l[i.toNat]? with
  | none => simp [AD.dat, AD.dats_map]
  | some c => simp [AD.dat, AD.dats_map, List.map_set, AD.graft_dat p c u]
theorem D.graft_sub (u : D) : ∀ (q p : List Int) (d x : D), (∀ j, j ∈ q → 0 ≤ j) → d.sub p = some x → (∀ i r, p ≠ q ++ i :: r) → ∃ y, (d.graft q u).sub p = some y
 | [], p, d, x, h0, h, hq => by
  cases p with
  | nil => exact ⟨_, rfl⟩
  | cons i r => exact (hq i r rfl).elim
 | j :: q, p, .mk k n t l, x, h0, h, hq => by
  cases p with
  | nil => exact ⟨_, rfl⟩
  | cons i r =>
   simp only [D.sub, D.kids] at h
   split at h
   ·rename_i hi
    obtain ⟨c, hc, hcx⟩ := Option.bind_eq_some_iff.1 h
    simp only [D.graft]
    cases hj : l[j.toNat]? with
    | none =>
     refine ⟨x, ?_⟩
     simp only [D.sub, D.kids]
     rw [if_pos hi, hc]; exact hcx
    | some e =>
     simp only [D.sub, D.kids]
     rw [if_pos hi, List.getElem?_set]
     by_cases hij : j.toNat = i.toNat
     ·have hj0 := h0 j (by simp)
      have hji : j = i := by omega
      subst hji
      rw [if_pos rfl, if_pos (List.getElem?_eq_some_iff.1 hc).1]
      rw [hc] at hj
      cases hj
      simp only [Option.bind_some]
      exact D.graft_sub u q r c x (fun a ha => h0 a (by simp [ha])) hcx fun i' r' e => hq i' r' (by rw [e]; rfl)
     ·rw [if_neg hij, hc]
      exact ⟨x, hcx⟩
   ·cases h
theorem AD.graft_sub (u : AD) {q p : List Int} {t x : AD} (h0 : ∀ j, j ∈ q → 0 ≤ j) (h : t.sub p = some x) (hq : ∀ i r, p ≠ q ++ i :: r) : ∃ y, (t.graft q u).sub p = some y := by
 obtain ⟨y, hy⟩ := D.graft_sub u.dat q p t.dat x.dat h0 (by rw [AD.sub_dat, h]; rfl) hq
 rw [← AD.graft_dat, AD.sub_dat] at hy
 obtain ⟨z, hz, _⟩ := Option.map_eq_some_iff.1 hy
 exact ⟨z, hz⟩
theorem yjI {pre c post u : List AV} (h : u.length = c.length) : overlay (pre ++ c ++ post) pre.length u = pre ++ u ++ post := by
 unfold overlay
 rw [show pre ++ c ++ post = pre ++ (c ++ post) from List.append_assoc _ _ _, List.take_left' rfl, h, ← List.append_assoc pre c post, List.drop_left' (by simp), List.append_assoc]
theorem AD.graftW {σ : Store} (u : AD) (hun : (u.arrs.map (·.1)).Nodup) (huH : HasU σ u.arrs) : ∀ (p : List Int) (t x : AD) (o : Nat) (pre post : List AV), HasU σ (ze o pre post t) → ((ze o pre post t).map (·.1)).Nodup → (∀ k, k ∈ (ze o pre post t).map (·.1) → k ∉ u.arrs.map (·.1)) → t.sub p = some x →
  ∃ cells, σ.objs[(AD.loc (o, pre.length) t p).1]? = some (.arr cells) ∧ (AD.loc (o, pre.length) t p).2 + 4 ≤ cells.length ∧
   HasU ({ σ with objs := σ.objs.set (AD.loc (o, pre.length) t p).1 (.arr (overlay cells (AD.loc (o, pre.length) t p).2 u.cells)) } : Store) (ze o pre post (t.graft p u)) ∧
   ((ze o pre post (t.graft p u)).map (·.1)).Nodup ∧ (∀ k, k ∈ (t.graft p u).arrs.map (·.1) → k ∈ t.arrs.map (·.1) ∨ k ∈ u.arrs.map (·.1)) ∧ (AD.loc (o, pre.length) t p).1 ∈ (ze o pre post t).map (·.1)
 | [], t, x, o, pre, post, h, hn, hd, hx => by
  have ho := h _ (List.mem_cons_self)
  have hou : o ∉ u.arrs.map (·.1) := hd o (by simp [ze])
  refine ⟨_, ho, by simp [AD.loc, AD.cells_len], ?_, ?_, fun k hk => .inr hk, by simp [AD.loc, ze]⟩
  ·intro q hq
   simp only [AD.loc, AD.graft] at hq ⊢
   rw [yjI (by rw [AD.cells_len, AD.cells_len])]
   rcases List.mem_cons.1 hq with e | hq2
   ·subst e; exact List.getElem?_set_self (List.getElem?_eq_some_iff.1 ho).1
   ·rw [List.getElem?_set_ne (by intro e; exact hou (by rw [e]; exact List.mem_map.2 ⟨q, hq2, rfl⟩))]
    exact huH q hq2
  ·exact List.nodup_cons.2 ⟨hou, hun⟩
 | i :: p, .mk k n tx o' l, x, o, pre, post, h, hn, hd, hx => by
  simp only [AD.sub] at hx
  split at hx
  ·obtain ⟨c, hc, hx⟩ := Option.bind_eq_some_iff.1 hx
   simp only [AD.kids] at hc
   obtain ⟨h1, h2⟩ := ybr (c' := c.graft p u) hc
   have hne : l ≠ [] := by intro e; rw [e] at hc; simp at hc
   have hl : ((l.take i.toNat).flatMap AD.cells).length = i.toNat * 4 := by
    rw [zH, List.length_take, Nat.min_eq_left (Nat.le_of_lt (List.getElem?_eq_some_iff.1 hc).1)]; omega
   generalize hA : l.take i.toNat = A at *
   generalize hB : l.drop (i.toNat + 1) = B at *
   have hrow : (AD.mk k n tx o' l).arrs = (o', .arr (A.flatMap AD.cells ++ c.cells ++ B.flatMap AD.cells)) :: (A.flatMap AD.arrs ++ c.arrs ++ B.flatMap AD.arrs) := by
    rw [AD.arrs, ZD hne, AD.arrss_flat, h1]; simp
   have hset : (AD.mk k n tx o' l).graft (i :: p) u = .mk k n tx o' (A ++ c.graft p u :: B) := by
    simp only [AD.graft, hc, h2]
   have hrow' : ((AD.mk k n tx o' l).graft (i :: p) u).arrs = (o', .arr (A.flatMap AD.cells ++ (c.graft p u).cells ++ B.flatMap AD.cells)) :: (A.flatMap AD.arrs ++ (c.graft p u).arrs ++ B.flatMap AD.arrs) := by
    rw [hset, AD.arrs, ZD (by simp), AD.arrss_flat]; simp
   have hcells : ((AD.mk k n tx o' l).graft (i :: p) u).cells = (AD.mk k n tx o' l).cells := by
    rw [hset, AD.cells, AD.cells, yi4 (l := A ++ c.graft p u :: B) (r := l)]
    rw [h1]; simp
   have hsub : ∀ q, q ∈ ze o' (A.flatMap AD.cells) (B.flatMap AD.cells) c → q ∈ ze o pre post (AD.mk k n tx o' l) := by
    intro q hq
    refine List.mem_cons_of_mem _ ?_
    rw [hrow]
    rcases List.mem_cons.1 hq with rfl | hq
    ·exact List.mem_cons_self
    ·exact List.mem_cons_of_mem _ (List.mem_append_left _ (List.mem_append_right _ hq))
   have hkeys : (ze o pre post (AD.mk k n tx o' l)).map (·.1) = o :: o' :: ((A.flatMap AD.arrs).map (·.1) ++ c.arrs.map (·.1) ++ (B.flatMap AD.arrs).map (·.1)) := by
    rw [zV, hrow]; simp
   rw [hkeys] at hn hd
   have hn1 := List.nodup_cons.1 hn
   have hn2 := List.nodup_cons.1 hn1.2
   have hn3 := List.nodup_append.1 hn2.2
   have hn4 := List.nodup_append.1 hn3.1
   have hnc : ((ze o' (A.flatMap AD.cells) (B.flatMap AD.cells) c).map (·.1)).Nodup := by
    rw [zV]
    exact List.nodup_cons.2 ⟨fun hm => hn2.1 (List.mem_append_left _ (List.mem_append_right _ hm)), hn4.2.1⟩
   have hcin : ∀ a, a ∈ (ze o' (A.flatMap AD.cells) (B.flatMap AD.cells) c).map (·.1) → a = o' ∨ a ∈ c.arrs.map (·.1) := fun a ha => by rw [zV] at ha; exact List.mem_cons.1 ha
   obtain ⟨cells, k1, k2, k3, k4, k5, k6⟩ := AD.graftW u hun huH p c x o' (A.flatMap AD.cells) (B.flatMap AD.cells) (fun q hq => h q (hsub q hq)) hnc (fun a ha => hd a (by
    rcases hcin a ha with e | e
    ·rw [e]; simp
    ·exact List.mem_cons_of_mem _ (List.mem_cons_of_mem _ (List.mem_append_left _ (List.mem_append_right _ e))))) hx
   rw [hl] at k1 k2 k3 k6
   have hrin := hcin _ k6
   simp only [AD.loc, AD.kids, hc, AD.o]
   generalize AD.loc (o', i.toNat * 4) c p = lc at k1 k2 k3 k6 hrin ⊢
   have hc'n : ∀ a, a ∈ (c.graft p u).arrs.map (·.1) → a ∈ c.arrs.map (·.1) ∨ a ∈ u.arrs.map (·.1) := k5
   have hout : ∀ q, q ∈ ze o pre post (AD.mk k n tx o' l) → q.1 ≠ lc.1 → (σ.objs.set lc.1 (.arr (overlay cells lc.2 u.cells)))[q.1]? = some q.2 := fun q hq hne2 => by
    rw [List.getElem?_set_ne (fun e => hne2 e.symm)]; exact h q hq
   have hlo : o ≠ lc.1 := by
    intro e
    rcases hrin with e2 | e2
    ·exact hn1.1 (by rw [e, e2]; simp)
    ·exact hn1.1 (by rw [e]; exact List.mem_cons_of_mem _ (List.mem_append_left _ (List.mem_append_right _ e2)))
   refine ⟨cells, k1, k2, fun q hq => ?_, ?_, fun a ha => ?_, ?_⟩
   ·unfold ze at hq
    rw [hrow', hcells] at hq
    rcases List.mem_cons.1 hq with rfl | hq
    ·exact hout _ (List.mem_cons_self) hlo
    ·rcases List.mem_cons.1 hq with rfl | hq
     ·exact k3 _ (List.mem_cons_self)
     ·rcases List.mem_append.1 hq with hq | hq
      ·rcases List.mem_append.1 hq with hq | hq
       ·have hm1 : q.1 ∈ (A.flatMap AD.arrs).map (·.1) := List.mem_map.2 ⟨q, hq, rfl⟩
        refine hout q (List.mem_cons_of_mem _ (by rw [hrow]; exact List.mem_cons_of_mem _ (List.mem_append_left _ (List.mem_append_left _ hq)))) fun e => ?_
        rcases hrin with e2 | e2
        ·exact hn2.1 (by rw [← e2, ← e]; exact List.mem_append_left _ (List.mem_append_left _ hm1))
        ·exact hn4.2.2 _ hm1 _ e2 e
       ·exact k3 _ (List.mem_cons_of_mem _ hq)
      ·have hm1 : q.1 ∈ (B.flatMap AD.arrs).map (·.1) := List.mem_map.2 ⟨q, hq, rfl⟩
       refine hout q (List.mem_cons_of_mem _ (by rw [hrow]; exact List.mem_cons_of_mem _ (List.mem_append_right _ hq))) fun e => ?_
       rcases hrin with e2 | e2
       ·exact hn2.1 (by rw [← e2, ← e]; exact List.mem_append_right _ hm1)
       ·exact hn3.2.2 _ (List.mem_append_right _ e2) _ hm1 e.symm
   ·have e1 : (ze o pre post ((AD.mk k n tx o' l).graft (i :: p) u)).map (·.1) = o :: o' :: ((A.flatMap AD.arrs).map (·.1) ++ (c.graft p u).arrs.map (·.1) ++ (B.flatMap AD.arrs).map (·.1)) := by
     rw [zV, hrow']; simp
    rw [e1]
    have k4' := List.nodup_cons.1 (by rw [zV] at k4; exact k4)
    have du : ∀ a, a ∈ o :: o' :: ((A.flatMap AD.arrs).map (·.1) ++ c.arrs.map (·.1) ++ (B.flatMap AD.arrs).map (·.1)) → a ∉ u.arrs.map (·.1) := hd
    refine List.nodup_cons.2 ⟨fun hm => ?_, List.nodup_cons.2 ⟨fun hm => ?_, List.nodup_append.2 ⟨List.nodup_append.2 ⟨hn4.1, k4'.2, fun a ha b hb e => ?_⟩, hn3.2.1, fun a ha b hb e => ?_⟩⟩⟩
    ·rcases List.mem_cons.1 hm with e | hm
     ·exact hn1.1 (by rw [e]; exact List.mem_cons_self)
     ·rcases List.mem_append.1 hm with hm | hm
      ·rcases List.mem_append.1 hm with hm | hm
       ·exact hn1.1 (List.mem_cons_of_mem _ (List.mem_append_left _ (List.mem_append_left _ hm)))
       ·rcases hc'n _ hm with hm | hm
        ·exact hn1.1 (List.mem_cons_of_mem _ (List.mem_append_left _ (List.mem_append_right _ hm)))
        ·exact du o (by simp) hm
      ·exact hn1.1 (List.mem_cons_of_mem _ (List.mem_append_right _ hm))
    ·rcases List.mem_append.1 hm with hm | hm
     ·rcases List.mem_append.1 hm with hm | hm
      ·exact hn2.1 (List.mem_append_left _ (List.mem_append_left _ hm))
      ·exact k4'.1 hm
     ·exact hn2.1 (List.mem_append_right _ hm)
    ·subst e
     rcases hc'n _ hb with hb | hb
     ·exact hn4.2.2 _ ha _ hb rfl
     ·exact du a (List.mem_cons_of_mem _ (List.mem_cons_of_mem _ (List.mem_append_left _ (List.mem_append_left _ ha)))) hb
    ·subst e
     rcases List.mem_append.1 ha with ha | ha
     ·exact hn3.2.2 _ (List.mem_append_left _ ha) _ hb rfl
     ·rcases hc'n _ ha with ha | ha
      ·exact hn3.2.2 _ (List.mem_append_right _ ha) _ hb rfl
      ·exact du a (List.mem_cons_of_mem _ (List.mem_cons_of_mem _ (List.mem_append_right _ hb))) ha
   ·rw [hrow'] at ha
    rw [hrow]
    simp only [List.map_cons, List.map_append, List.mem_cons, List.mem_append] at ha ⊢
    rcases ha with e | (ha | ha) | ha
    ·exact .inl (.inl e)
    ·exact .inl (.inr (.inl (.inl ha)))
    ·rcases hc'n a ha with h3 | h3
     ·exact .inl (.inr (.inl (.inr h3)))
     ·exact .inr h3
    ·exact .inl (.inr (.inr ha))
   ·rw [hkeys]
    rcases hrin with e | e
    ·rw [e]; simp
    ·exact List.mem_cons_of_mem _ (List.mem_cons_of_mem _ (List.mem_append_left _ (List.mem_append_right _ e)))
  ·cases hx
end Go.Aw

namespace Go.Aw
open Go
section
variable {ρ : Option Nat} {P : Program} {σ0 : Store} {N : Nat} {s : St} {Q : Exit → St → Prop}
def ycc (d : D) : List AV := [.pv (.int .i64 d.kind), .pv (.int .i64 d.num), .pv (.str d.text), .pv (.slice (d.kids.map enc))]
theorem ygS {c : Code} (d : Nat) {s2 : St} {M ob : Nat} {t : AD} (hx : get s.T d = .ptr ob 0) (hob : s.σ.objs[ob]? = some (.arr t.cells)) (hU : HasU s.σ t.arrs) (hM : M ≤ ob) (hge : ∀ q, q ∈ t.arrs → M ≤ q.1 ∧ q.1 ≠ ob) (hw : Weak σ0 M s.σ.toks.length s.L.length s s2)
  (k : AWpR ρ P σ0 N c Q ⟨(d, .ptr s2.σ.objs.length 0) :: s2.T, s2.L, { s2.σ with objs := s2.σ.objs ++ [.arr (ycc t.dat)] }⟩) : AWpR ρ P σ0 N c Q s := by
 rintro g0 w0 a w ⟨g, r⟩
 have r2 := hw.rel r
 have hpr := r.2.2.2.2 d
 rw [hx] at hpr
 generalize hpv : a.tmps.getD d undef = pv at hpr
 cases hpr with
 | ptr hio =>
  rename_i b
  obtain ⟨hnl, vs, rest, e, h6, h7, h8, h9⟩ := r.2.1.objs ob _ b hob hio
  have hA := r2.2.1.addSs (fun b => ∃ q, q ∈ t.arrs ∧ g.io[q.1]? = some b) (by
   rintro b ⟨q, hq, hb⟩
   exact r.2.1.freshOld hb (hge q hq).1)
  have r3 := r2.later (σ' := s2.σ) (L' := s2.L) hA.2 (fun _ _ h => h) hA.1 rfl rfl (fun _ _ => rfl) (Nat.le_refl _) rfl rfl rfl
  have hf0 := r.2.1.freshOld (no := M) (nt := s.σ.toks.length) (nl := s.L.length) hio hM
  have ap := r.2.1.apart
  have hf : Fresh { g.cut M s.σ.toks.length s.L.length with S := fun c o => (g.cut M s.σ.toks.length s.L.length).S c o ∨ ∃ q, q ∈ t.arrs ∧ g.io[q.1]? = some c } w b := by
   refine ⟨hf0.low, hf0.lt, hf0.K, fun o hS => ?_, hf0.own⟩
   rcases hS with hS | ⟨q, hq, hb⟩
   ·exact hf0.S o hS
   ·exact (hge q hq).2 (Ya ap.1.1 hb hio)
  have hks : Keeps g.B g.S (fun c o => g.S c o ∨ ∃ q, q ∈ t.arrs ∧ g.io[q.1]? = some c) w w := ⟨fun _ _ h => .inl h, fun _ _ _ => rfl, fun _ _ => rfl⟩
  have hro : RObj { g.cut M s.σ.toks.length s.L.length with S := fun c o => (g.cut M s.σ.toks.length s.L.length).S c o ∨ ∃ q, q ∈ t.arrs ∧ g.io[q.1]? = some c } s2.σ.toks w b (.arr (ycc t.dat)) := by
   refine ⟨fun x hx => ?_, vs, rest, e, h6, by rw [h7, AD.cells_len]; rfl, h8, fun i x v hx hv => ?_⟩
   ·simp only [ycc, List.mem_cons, List.not_mem_nil, or_false] at hx
    rcases hx with rfl | rfl | rfl | rfl <;> rfl
   ·rw [AD.cells_eq] at h9
    simp only [ycc] at hx
    match i, hx with
    | 0, hx => simp only [List.getElem?_cons_zero, Option.some.injEq] at hx; subst hx; have := (h9 0 _ v rfl hv).pv_inv.mono hks; rw [AD.dat_kind]; exact .pv this
    | 1, hx => simp only [List.getElem?_cons_succ, List.getElem?_cons_zero, Option.some.injEq] at hx; subst hx; have := (h9 1 _ v rfl hv).pv_inv.mono hks; rw [AD.dat_num]; exact .pv this
    | 2, hx => simp only [List.getElem?_cons_succ, List.getElem?_cons_zero, Option.some.injEq] at hx; subst hx; have := (h9 2 _ v rfl hv).pv_inv.mono hks; rw [AD.dat_text]; exact .pv this
    | 3, hx =>
     simp only [List.getElem?_cons_succ, List.getElem?_cons_zero, Option.some.injEq] at hx; subst hx
     refine .pv (AD.reads (g := g) (tk := s.σ.toks) (fun b o h => .inl h) t v (fun q hq => ?_) (h9 3 _ v rfl hv))
     have h4 := hU q hq
     have hlt : q.1 < g.io.length := by rw [r.2.1.lio]; exact (List.getElem?_eq_some_iff.1 h4).1
     exact ⟨g.io[q.1], by simp, r.2.1.objs q.1 q.2 _ h4 (by simp), fun o => .inr ⟨q, hq, by simp⟩⟩
    | n + 4, hx => simp at hx
  have r4 := r3.addObj hf hro
  refine k g0 w0 a w ⟨_, r4.1, r4.2.1, r4.2.2.1, r4.2.2.2.1, fun t' => ?_⟩
  simp only [get]
  split
  ·subst_vars
   rw [hpv]
   refine .ptr ?_
   have hl := r2.2.1.lio
   show ((g.cut M s.σ.toks.length s.L.length).io ++ [b])[s2.σ.objs.length]? = some b
   rw [← hl]; simp
  ·exact r4.2.2.2.2 t'
end
end Go.Aw

namespace Go.Aw
open Go
section
variable {ρ : Option Nat} {P : Program} {σ0 : Store} {N : Nat} {s : St} {Q : Exit → St → Prop}
theorem Inv.freshOldL {g : Ghost} {σ : Store} {L : List (List AV)} {w : World} (h : Inv g σ L w) {i no nt nl b : Nat} (hi : g.lam[i]? = some b) (hno : nl ≤ i) : Fresh (g.cut no nt nl) w b := by
 have hown : b ∈ g.owned := by simp only [Ghost.owned, List.mem_append]; exact .inl (.inr (List.mem_of_getElem? hi))
 have hlow := h.low b hown
 have ap := h.apart
 refine ⟨hlow.1, hlow.2.1, hlow.2.2, fun o hS => (h.cells b o hS).2.2.2 (List.mem_of_getElem? hi), ?_⟩
 have hnd := h.nodup
 intro hm
 simp only [Ghost.owned, Ghost.cut, List.mem_append] at hm
 rcases hm with (hm | hm) | hm
 ·exact ap.2.1 b (List.mem_of_mem_take hm) (List.mem_of_getElem? hi)
 ·obtain ⟨q, hq, hqe⟩ := List.getElem_of_mem hm
  have hq2 : q < nl := by rw [List.length_take] at hq; omega
  have h1 : g.lam[q]? = some b := by
   rw [List.getElem_take] at hqe
   rw [← hqe]; simp
  have := Ya ap.1.2 h1 hi
  omega
 ·obtain ⟨tb, htb, hte⟩ := List.mem_filterMap.1 hm
  cases tb with
  | none => cases hte
  | some tb =>
   simp only [Option.map_some, Option.some.injEq] at hte
   obtain ⟨kk, hkk, hke⟩ := List.getElem_of_mem (List.mem_of_mem_take htb)
   have := (ap.2.2 kk tb (by rw [← hke]; simp)).2
   rw [hte] at this
   exact this (List.mem_of_getElem? hi)
theorem Fresh.addIo {g : Ghost} {w : World} {b c : Nat} (h : Fresh g w b) (hne : b ≠ c) : Fresh { g with io := g.io ++ [c] } w b := by
 refine ⟨h.low, h.lt, h.K, h.S, fun hm => h.own ?_⟩
 simp only [Ghost.owned, List.mem_append, List.mem_singleton] at hm ⊢
 rcases hm with ((hm | hm) | hm) | hm
 ·exact .inl (.inl hm)
 ·exact absurd hm hne
 ·exact .inl (.inr hm)
 ·exact .inr hm
theorem ycV {c : Code} (d1 d2 : Nat) {s2 : St} {M nl i j a b : Nat} {ks vs ks' vs' : List PV} (h1 : get s.T d1 = .lptr i 0) (h2 : get s.T d2 = .lptr j 0) (hij : i ≠ j) (hLi : s.L[i]? = some [.map a]) (hLj : s.L[j]? = some [.map b]) (hab : a ≠ b)
  (ha : s.σ.objs[a]? = some (.map ks vs)) (hb : s.σ.objs[b]? = some (.map ks' vs')) (hMa : M ≤ a) (hMb : M ≤ b) (hli : nl ≤ i) (hlj : nl ≤ j) (hd : d1 ≠ d2) (hw : Weak σ0 M s.σ.toks.length nl s s2)
  (k : AWpR ρ P σ0 N c Q ⟨(d1, .ptr (s2.σ.objs.length + 2) 0) :: (d2, .ptr (s2.σ.objs.length + 3) 0) :: s2.T, s2.L, { s2.σ with objs := s2.σ.objs ++ [.map ks vs, .map ks' vs', .box [.map s2.σ.objs.length], .box [.map (s2.σ.objs.length + 1)]] }⟩) : AWpR ρ P σ0 N c Q s := by
 rintro g0 w0 ac w ⟨g, r⟩
 have r2 := hw.rel r
 have hl2 := r2.2.1.lio
 have ap := r.2.1.apart
 have hp1 := r.2.2.2.2 d1
 rw [h1] at hp1
 generalize hv1 : ac.tmps.getD d1 undef = v1 at hp1
 have hp2 := r.2.2.2.2 d2
 rw [h2] at hp2
 generalize hv2 : ac.tmps.getD d2 undef = v2 at hp2
 cases hp1 with
 | lptr hi =>
  rename_i bi
  cases hp2 with
  | lptr hj =>
   rename_i bj
   obtain ⟨ui, ei, hi1, hi2, hi3, hi4⟩ := r.2.1.priv i _ bi hLi hi
   obtain ⟨uj, ej, hj1, hj2, hj3, hj4⟩ := r.2.1.priv j _ bj hLj hj
   match ui, hi2 with
   | [xi], hlen1 =>
    match uj, hj2 with
    | [xj], hlen2 =>
     have hxi := hi4 0 (.map a) xi rfl rfl
     have hxj := hj4 0 (.map b) xj rfl rfl
     cases hxi with
     | map hia =>
      rename_i ba
      cases hxj with
      | map hib =>
       rename_i bb
       have hoa := r.2.1.objs a _ ba ha hia
       have hob := r.2.1.objs b _ bb hb hib
       have fa := r.2.1.freshOld (no := M) (nt := s.σ.toks.length) (nl := nl) hia hMa
       have fb := r.2.1.freshOld (no := M) (nt := s.σ.toks.length) (nl := nl) hib hMb
       have fi := r.2.1.freshOldL (no := M) (nt := s.σ.toks.length) (nl := nl) hi hli
       have fj := r.2.1.freshOldL (no := M) (nt := s.σ.toks.length) (nl := nl) hj hlj
       have nab : bb ≠ ba := fun e => hab (Ya ap.1.1 hia (e ▸ hib))
       have nia : bi ≠ ba := fun e => ap.2.1 ba (List.mem_of_getElem? hia) (e ▸ List.mem_of_getElem? hi)
       have nib : bi ≠ bb := fun e => ap.2.1 bb (List.mem_of_getElem? hib) (e ▸ List.mem_of_getElem? hi)
       have nja : bj ≠ ba := fun e => ap.2.1 ba (List.mem_of_getElem? hia) (e ▸ List.mem_of_getElem? hj)
       have njb : bj ≠ bb := fun e => ap.2.1 bb (List.mem_of_getElem? hib) (e ▸ List.mem_of_getElem? hj)
       have nji : bj ≠ bi := fun e => hij (Ya ap.1.2 hi (e ▸ hj))
       have r3 := r2.addObj fa (ob := .map ks vs) hoa
       have r4 := r3.addObj (fb.addIo nab) (ob := .map ks' vs') hob
       have g4a : (((g.cut M s.σ.toks.length nl).io ++ [ba]) ++ [bb])[s2.σ.objs.length]? = some ba := by rw [← hl2]; simp
       have g4b : (((g.cut M s.σ.toks.length nl).io ++ [ba]) ++ [bb])[s2.σ.objs.length + 1]? = some bb := by rw [← hl2]; simp
       have r5 := r4.addObj ((fi.addIo nia).addIo nib) (ob := .box [.map s2.σ.objs.length]) ⟨fun x hx => by rw [List.mem_singleton] at hx; subst hx; rfl, [.map (some ba)], ei, hi1, rfl, hi3, fun q x v hx hv => by
        cases q with
        | zero => simp at hx hv; subst hx; subst hv; exact .map g4a
        | succ q => simp at hx⟩
       have g5b : ((((g.cut M s.σ.toks.length nl).io ++ [ba]) ++ [bb]) ++ [bi])[s2.σ.objs.length + 1]? = some bb := by rw [List.getElem?_append_left (List.getElem?_eq_some_iff.1 g4b).1]; exact g4b
       have r6 := r5.addObj (((fj.addIo nja).addIo njb).addIo nji) (ob := .box [.map (s2.σ.objs.length + 1)]) ⟨fun x hx => by rw [List.mem_singleton] at hx; subst hx; rfl, [.map (some bb)], ej, hj1, rfl, hj3, fun q x v hx hv => by
        cases q with
        | zero => simp at hx hv; subst hx; subst hv; exact .map g5b
        | succ q => simp at hx⟩
       have e6 : ((((s2.σ.objs ++ [AObj.map ks vs]) ++ [AObj.map ks' vs']) ++ [AObj.box [.map s2.σ.objs.length]]) ++ [AObj.box [.map (s2.σ.objs.length + 1)]]) = s2.σ.objs ++ [.map ks vs, .map ks' vs', .box [.map s2.σ.objs.length], .box [.map (s2.σ.objs.length + 1)]] := by simp
       simp only [e6] at r6
       refine k g0 w0 ac w ⟨_, r6.1, r6.2.1, r6.2.2.1, r6.2.2.2.1, fun t => ?_⟩
       simp only [get]
       split
       ·subst_vars
        rw [hv1]
        refine .ptr ?_
        show (((((g.cut M s.σ.toks.length nl).io ++ [ba]) ++ [bb]) ++ [bi]) ++ [bj])[s2.σ.objs.length + 2]? = some bi
        rw [← hl2]; simp
       ·split
        ·subst_vars
         rw [hv2]
         refine .ptr ?_
         show (((((g.cut M s.σ.toks.length nl).io ++ [ba]) ++ [bb]) ++ [bi]) ++ [bj])[s2.σ.objs.length + 3]? = some bj
         rw [← hl2]; simp
        ·exact r6.2.2.2.2 t
end
end Go.Aw

namespace Go.Aw
open Go
def yaB (a : D) (ob : Nat) (st : List AObj × AD) (p : List Int) : List AObj × AD :=
 match (st.1 ++ lobjs st.1.length a)[(AD.loc (ob, 0) st.2 p).1]? with
 | some (.arr cells) => ((st.1 ++ lobjs st.1.length a).set (AD.loc (ob, 0) st.2 p).1 (.arr (overlay cells (AD.loc (ob, 0) st.2 p).2 (lay st.1.length a).cells)), st.2.graft p (lay st.1.length a))
 | _ => (st.1 ++ lobjs st.1.length a, st.2.graft p (lay st.1.length a))
structure GOk (gl : List (Nat × PV)) (tk : List Tok) (M ob : Nat) (st : List AObj × AD) : Prop where
 hU : HasU ⟨gl, st.1, tk⟩ (Ym ob st.2)
 nd : ((Ym ob st.2).map (·.1)).Nodup
 ge : ∀ i, i ∈ (Ym ob st.2).map (·.1) → M ≤ i
theorem GOk.step {gl : List (Nat × PV)} {tk : List Tok} {M ob : Nat} {st : List AObj × AD} (h : GOk gl tk M ob st) (a : D) {p : List Int} {x : AD} (hx : st.2.sub p = some x) :
  GOk gl tk M ob (yaB a ob st p) ∧ (yaB a ob st p).2 = st.2.graft p (lay st.1.length a) ∧ (yaB a ob st p).1.take M = st.1.take M ∧ st.1.length ≤ (yaB a ob st p).1.length ∧
   ∃ cells, (st.1 ++ lobjs st.1.length a)[(AD.loc (ob, 0) st.2 p).1]? = some (.arr cells) ∧ (AD.loc (ob, 0) st.2 p).2 + 4 ≤ cells.length ∧ (yaB a ob st p).1 = (st.1 ++ lobjs st.1.length a).set (AD.loc (ob, 0) st.2 p).1 (.arr (overlay cells (AD.loc (ob, 0) st.2 p).2 (lay st.1.length a).cells)) := by
 have hua := yb6 (σ := ⟨gl, st.1 ++ lobjs st.1.length a, tk⟩) (A := st.1) (C := []) (d := a) (by simp)
 have hr : HasU ⟨gl, st.1 ++ lobjs st.1.length a, tk⟩ (Ym ob st.2) := h.hU.app _ _
 have hlt : ∀ i, i ∈ (Ym ob st.2).map (·.1) → i < st.1.length := fun i hi => by
  obtain ⟨q, hq, rfl⟩ := List.mem_map.1 hi
  exact h.hU.lt hq
 have hku : ∀ i, i ∈ (lay st.1.length a).arrs.map (·.1) → st.1.length ≤ i := fun i hi => by
  rw [YM, List.mem_range'_1] at hi; exact hi.1
 have hob : M ≤ ob := h.ge ob (by simp [Ym])
 have hMl : M ≤ st.1.length := by have := hlt ob (by simp [Ym]); omega
 rw [Yk] at hr hlt
 have hnd := h.nd
 rw [Yk] at hnd
 obtain ⟨cells, k1, k2, k3, k4, k5, k6⟩ := AD.graftW (lay st.1.length a) (ymZ _ _) hua p st.2 x ob [] [] hr hnd (fun k hk hk2 => by have := hlt k hk; have := hku k hk2; omega) hx
 simp only [List.length_nil] at k1 k2 k3 k6
 have hs : yaB a ob st p = ((st.1 ++ lobjs st.1.length a).set (AD.loc (ob, 0) st.2 p).1 (.arr (overlay cells (AD.loc (ob, 0) st.2 p).2 (lay st.1.length a).cells)), st.2.graft p (lay st.1.length a)) := by
  unfold yaB
  rw [k1]
 have hlM : M ≤ (AD.loc (ob, 0) st.2 p).1 := h.ge _ (by rw [Yk]; exact k6)
 refine ⟨⟨?_, ?_, ?_⟩, by rw [hs], ?_, ?_, cells, k1, k2, by rw [hs]⟩
 ·rw [hs, Yk]; exact k3
 ·rw [hs, Yk]; exact k4
 ·intro i hi
  rw [hs] at hi
  rcases List.mem_cons.1 hi with e | hi
  ·rw [e]; exact hob
  ·rcases k5 i hi with hi | hi
   ·exact h.ge i (List.mem_cons_of_mem _ hi)
   ·have := hku i hi; omega
 ·rw [hs, List.take_set_of_le hlM, List.take_append_of_le_length hMl]
 ·rw [hs]; simp
def gK (a : D) (ob : Nat) (ps : List (List Int)) (st : List AObj × AD) (k : Nat) : List AObj × AD := (ps.take k).foldl (yaB a ob) st
theorem ykF {a : D} {ob : Nat} {ps : List (List Int)} {st : List AObj × AD} {k : Nat} {p : List Int} (h : ps[k]? = some p) : gK a ob ps st (k + 1) = yaB a ob (gK a ob ps st k) p := by
 unfold gK
 rw [yI h, List.foldl_append]; rfl
def yja (ps : List (List Int)) : Prop := ∀ p, p ∈ ps → ∀ q, q ∈ ps → ∀ i r, p ≠ q ++ i :: r
theorem ysz {gl : List (Nat × PV)} {tk : List Tok} {M ob : Nat} {st : List AObj × AD} (h : GOk gl tk M ob st) (a : D) {ps : List (List Int)} (hs : ∀ p, p ∈ ps → ∃ x, st.2.sub p = some x) (ha : yja ps) (h0 : ∀ p, p ∈ ps → ∀ j, j ∈ p → 0 ≤ j) : ∀ k, k ≤ ps.length →
  GOk gl tk M ob (gK a ob ps st k) ∧ (∀ p, p ∈ ps → ∃ x, (gK a ob ps st k).2.sub p = some x) ∧ (gK a ob ps st k).2.dat = (ps.take k).foldl (fun d p => d.graft p a) st.2.dat ∧ (gK a ob ps st k).1.take M = st.1.take M ∧ st.1.length ≤ (gK a ob ps st k).1.length := by
 intro k
 induction k with
 | zero => intro _; exact ⟨h, hs, rfl, rfl, Nat.le_refl _⟩
 | succ k ih =>
  intro hk
  obtain ⟨i1, i2, i3, i4, i5⟩ := ih (by omega)
  have hp : ps[k]? = some (ps[k]'(by omega)) := by simp
  have hpm := List.mem_of_getElem? hp
  obtain ⟨x, hx⟩ := i2 _ hpm
  obtain ⟨j1, j2, j3, j4, _⟩ := i1.step a hx
  rw [ykF hp]
  refine ⟨j1, fun q hq => ?_, ?_, j3.trans i4, Nat.le_trans i5 j4⟩
  ·rw [j2]
   obtain ⟨y, hy⟩ := i2 q hq
   exact AD.graft_sub _ (h0 _ hpm) hy (ha q hq _ hpm)
  ·rw [j2, AD.graft_dat, ycn, i3, yI hp, List.foldl_append]; rfl
section
variable {P : Program} {ty : TyT} {σ0 : Store} {N : Nat} {s : St} {o : Oper} {ops : Array Oper} {os : List Oper} {K : St → Prop}
theorem yhB {a : D} {gl : List (Nat × PV)} {tk : List Tok} {M ob : Nat} {st : List AObj × AD} {p : List Int} {x : AD} (hok : GOk gl tk M ob st) (hx : st.2.sub p = some x) (hs : s.σ = ⟨gl, st.1 ++ lobjs st.1.length a, tk⟩)
  (hty : TyOk P ty) {t : TypeId} {pp y : Operand} {ti : TyI} (hg : o.guard = none) (ho : o.op = .store t pp y) (hdst : o.dst = none) (hti : ty t = some ti) (h1 : ti.size = 4)
  (hp : ev s pp = .ptr (AD.loc (ob, 0) st.2 p).1 (AD.loc (ob, 0) st.2 p).2) (hy : ev s y = (lay st.1.length a).av) (k : AOpsL P σ0 N ops os K ⟨s.T, s.L, ⟨gl, (yaB a ob st p).1, tk⟩⟩) : AOpsL P σ0 N ops (o :: os) K s := by
 obtain ⟨_, _, _, _, cells, k1, k2, k3⟩ := hok.step a hx
 refine YC hg (yaT hty (i := (AD.loc (ob, 0) st.2 p).1) (off := (AD.loc (ob, 0) st.2 p).2) (cs := cells) (ds := (lay st.1.length a).cells) ho hp hti (by rw [hs]; exact k1) (by rw [hy]; exact AD.av_cells _) (zS _ _) (by rw [h1, AD.cells_len]) (by rw [AD.cells_len]; exact k2) (by rw [hdst]; rfl) ?_)
 rw [hdst]
 simp only [St.put]
 rw [hs]
 simp only
 rw [← k3]
 exact k
end
def sbPl (e : D) (x : ByteArray) : FSt := fnd x e [] [] ([], [])
def sbRn (e : D) (x : ByteArray) (a : D) : D × List ByteArray := zZ (sbTo (sfree a [] []) (sbPl e x).2) e (yX [e, a] [])
def ycX (e : D) (x : ByteArray) (a : D) : D := (sbPl e x).1.foldl (fun d p => d.graft p a) (sbRn e x a).1
theorem ylv (x : ByteArray) : ∀ (d : D) (p : List Int) (sc : List (ByteArray × ByteArray)) (s : FSt) (q : List Int), q ∈ (fnd x d p sc s).1 → q ∈ s.1 ∨ ∃ r y, q = p ++ r ∧ d.sub r = some y ∧ yb y = 2 := by
 intro d
 induction d using D.indS with
 | h d ih =>
  intro p sc s q hq
  have up : ∀ (c : Aw.Sub × D), c ∈ subs d → (∃ r y, q = (p ++ c.1.p) ++ r ∧ c.2.sub r = some y ∧ yb y = 2) → ∃ r y, q = p ++ r ∧ d.sub r = some y ∧ yb y = 2 := by
   rintro c hc ⟨r, y, h1, h2, h3⟩
   exact ⟨c.1.p ++ r, y, by rw [h1, List.append_assoc], by rw [D.sub_append, D.sub_subs hc]; exact h2, h3⟩
  by_cases h2 : yb d = 2
  ·rw [yij h2] at hq
   split at hq
   ·simp only [List.mem_append, List.mem_singleton] at hq
    rcases hq with hq | hq
    ·exact .inl hq
    ·exact .inr ⟨[], d, by rw [hq]; simp, rfl, h2⟩
   ·exact .inl hq
  by_cases h5 : yb d = 5 ∨ yb d = 9
  ·rw [yiy h5] at hq
   have hm : subL d 2 (d2 d.kids) ∈ subs d := by rw [yU h5]; simp
   rcases ih _ hm _ _ _ _ hq with h | h
   ·exact .inl h
   ·exact .inr (up _ hm h)
  by_cases h6 : yb d = 6
  ·rw [ykr h6] at hq
   have hm : (⟨[2], []⟩, d2 d.kids) ∈ subs d := by rw [yM h6]; simp
   have hm3 : subL d 3 (d.kids.getD 3 dnone) ∈ subs d := by rw [yM h6]; simp
   rcases ih _ hm3 _ _ _ _ hq with h | h
   ·rcases ih _ hm _ _ _ _ h with h | h
    ·exact .inl h
    ·exact .inr (up _ hm h)
   ·exact .inr (up _ hm3 h)
  by_cases h7 : yb d = 7
  ·rw [ykA h7] at hq
   have hm : subL d 2 (d2 d.kids) ∈ subs d := by rw [zd h7]; simp
   rcases ih _ hm _ _ _ _ hq with h | h
   ·have key : ∀ (inn : List (ByteArray × ByteArray)) (k : Nat), k ≤ (d1 d.kids).kids.length → q ∈ (fndD x d p inn k s).1 → q ∈ s.1 ∨ ∃ r y, q = p ++ r ∧ d.sub r = some y ∧ yb y = 2 := by
     intro inn k
     induction k with
     | zero => intro _ h; exact .inl h
     | succ k ihk =>
      intro hk h
      have hx : (d1 d.kids).kids[k]? = some ((d1 d.kids).kids[k]'(by omega)) := by simp
      rw [ygV hx] at h
      have hmk : subR d k ((d1 d.kids).kids[k]'(by omega)) ∈ subs d := by rw [zd h7]; exact List.mem_append_left _ (List.mem_of_getElem? (by rw [zC, hx]; rfl))
      rcases ih _ hmk _ _ _ _ h with h | h
      ·exact ihk (by omega) h
      ·exact .inr (up _ hmk h)
    exact key _ _ (Nat.le_refl _) h
   ·exact .inr (up _ hm h)
  ·have hr : yb d ≠ 2 ∧ yb d ≠ 5 ∧ yb d ≠ 9 ∧ yb d ≠ 6 ∧ yb d ≠ 7 := by omega
   rw [← ye8 hr] at hq
   have key : ∀ k, k ≤ (subs d).length → q ∈ (fndS x d p sc k s).1 → q ∈ s.1 ∨ ∃ r y, q = p ++ r ∧ d.sub r = some y ∧ yb y = 2 := by
    intro k
    induction k with
    | zero => intro _ h; exact .inl h
    | succ k ihk =>
     intro hk h
     have hx : (subs d)[k]? = some ((subs d)[k]'(by omega)) := by simp
     have hmk := List.mem_of_getElem? hx
     rw [ydS hx] at h
     rcases ih _ hmk _ _ _ _ h with h | h
     ·exact ihk (by omega) h
     ·exact .inr (up _ hmk h)
   exact key _ (Nat.le_refl _) hq
theorem ygk : ∀ (p : List Int) (d y : D), formed d = true → d.sub p = some y → formed y = true
 | [], d, y, h, hy => by cases hy; exact h
 | i :: p, d, y, h, hy => by
  simp only [D.sub] at hy
  split at hy
  ·obtain ⟨c, hc, hy⟩ := Option.bind_eq_some_iff.1 hy
   exact ygk p c y (yT h (List.mem_of_getElem? hc)) hy
  ·cases hy
theorem yl2 {y : D} (h : yb y = 2) : y.kind = 2 := by
 unfold yb at h
 by_cases h1 : (y.kind == 1) = true
 ·rw [if_pos h1] at h; cases h
 ·rw [if_neg h1] at h
  by_cases h2 : (y.kind == 2) = true
  ·simpa using h2
  ·rw [if_neg h2] at h
   exfalso
   split at h
   ·cases h
   ·split at h
    ·split at h <;> cases h
    ·split at h
     ·rename_i hf
      rw [h] at hf
      simp [fmOk] at hf
     ·cases h
theorem yaa {x : ByteArray} {e : D} {p : List Int} (h : p ∈ (sbPl e x).1) : ∃ y, e.sub p = some y ∧ yb y = 2 := by
 rcases ylv x e [] [] ([], []) p h with h | ⟨r, y, h1, h2, h3⟩
 ·simp at h
 ·exact ⟨y, by rw [h1]; exact h2, h3⟩
theorem yh4 {x : ByteArray} {e : D} (hf : formed e = true) : yja (sbPl e x).1 := by
 intro p hp q hq i r he
 obtain ⟨y, hy, _⟩ := yaa hp
 obtain ⟨z, hz, hz2⟩ := yaa hq
 have hk := (ycH (ygk q e z hf hz) (yl2 hz2)).2.1
 rw [he, D.sub_append, hz] at hy
 simp only [Option.bind_some, D.sub, hk] at hy
 split at hy
 ·simp at hy
 ·cases hy
end Go.Aw

namespace Go.Aw
open Go
mutual
def peq : PV → PV → Bool
 | .slice xs, .slice ys => peqs xs ys
 | .agg xs, .agg ys => peqs xs ys
 | .ptr xs, .ptr ys => peqs xs ys
 | .int k n, .int j m => zY (.int k n) (.int j m)
 | .bool a, .bool b => a == b
 | .str a, .str b => decide (a = b)
 | .nils, .nils => true
 | .nilp, .nilp => true
 | .nilif, .nilif => true
 | .nilmap, .nilmap => true
 | .nilfn, .nilfn => true
 | _, _ => false
def peqs : List PV → List PV → Bool
 | [], [] => true
 | x :: xs, y :: ys => peq x y && peqs xs ys
 | _, _ => false
end
mutual
theorem ymc : ∀ {a b : PV}, peq a b = true → a = b
 | .slice xs, b, h => by cases b <;> simp [peq] at h; rw [yd6 h]
 | .agg xs, b, h => by cases b <;> simp [peq] at h; rw [yd6 h]
 | .ptr xs, b, h => by cases b <;> simp [peq] at h; rw [yd6 h]
 | .int k n, b, h => by cases b <;> simp [peq] at h; exact ybL h
 | .bool a, b, h => by cases b <;> simp [peq] at h; rw [h]
 | .str a, b, h => by cases b <;> simp [peq] at h; rw [h]
 | .nils, b, h => by cases b <;> simp [peq] at h; rfl
 | .nilp, b, h => by cases b <;> simp [peq] at h; rfl
 | .nilif, b, h => by cases b <;> simp [peq] at h; rfl
 | .nilmap, b, h => by cases b <;> simp [peq] at h; rfl
 | .nilfn, b, h => by cases b <;> simp [peq] at h; rfl
 | .iface t p, b, h => by cases b <;> simp [peq] at h
 | .map ks vs, b, h => by cases b <;> simp [peq] at h
 | .tab k zs, b, h => by cases b <;> simp [peq] at h
theorem yd6 : ∀ {a b : List PV}, peqs a b = true → a = b
 | [], [], _ => rfl
 | x :: xs, y :: ys, h => by
  simp only [peqs, Bool.and_eq_true] at h
  rw [ymc h.1, yd6 h.2]
 | [], _ :: _, h => by simp [peqs] at h
 | _ :: _, [], h => by simp [peqs] at h
end
def gives (o : Option (AV × Store)) (q : PV) : Bool :=
 match o with
 | some (r, σ) => match r, σ.objs, σ.toks with
  | .pv p, [], [] => peq p q
  | _, _, _ => false
 | none => false

theorem Y2 {C : Cfg} {G : List (Nat × PV)} (H : CfgOk C G) {n : Nat} {f : FuncId} {args : List AV} {q : PV} (h : gives (evF C n f args ⟨G, [], []⟩) q = true) : zJ C.P ⟨G, [], []⟩ f args (.pv q) := by
 cases he : evF C n f args ⟨G, [], []⟩ with
 | none => rw [he] at h; cases h
 | some p =>
  obtain ⟨r, σ'⟩ := p
  rw [he] at h
  have hg := yiO he
  have hc := (yjj H n).1 f args ⟨G, [], []⟩ r σ' rfl he
  obtain ⟨gl, objs, toks⟩ := σ'
  simp only [gives] at h
  split at h
  ·simp only at hg
   subst hg
   rw [ymc h] at hc
   exact hc
  ·cases h
end Go.Aw

namespace Go.Aw
open Go
def cutX (s : ByteArray) : ByteArray := s.extract 0 (if (42 : Int) < s.size then (42 : Int) else s.size).toNat
def cutS (f : D → Nat → D × Nat) (st : List D × Nat) (k : D) : List D × Nat := if st.2 = 0 then st else (st.1 ++ [(f k st.2).1], (f k st.2).2)
def cutD : Nat → D → Nat → D × Nat
 | 0, d, lf => (.mk d.kind d.num (cutX d.text) [], lf - 1)
 | n + 1, d, lf =>
  let r := if n = 0 then ([], lf - 1) else d.kids.foldl (cutS (cutD n)) ([], lf - 1)
  (.mk d.kind d.num (cutX d.text) r.1, r.2)
theorem ymH (f : D → Nat → D × Nat) (l : List D) (st : List D × Nat) (h : st.2 = 0) : l.foldl (cutS f) st = st := by
 induction l with
 | nil => rfl
 | cons x l ih => rw [List.foldl_cons]; unfold cutS; rw [if_pos h]; exact ih
def cutI (n : Nat) (d : D) (lf : Nat) (i : List D × Nat) : Prop := i.1.length ≤ d.kids.length ∧ (if n = 0 then i = ([], lf - 1) else i = (d.kids.take i.1.length).foldl (cutS (cutD n)) ([], lf - 1)) ∧ D.sizes i.1 + i.2 + 1 ≤ lf
theorem yne {n : Nat} {d : D} {lf : Nat} (h : 0 < lf) : cutI n d lf ([], lf - 1) := by
 refine ⟨Nat.zero_le _, ?_, by simp [D.sizes]; omega⟩
 split <;> rfl
theorem yms {n : Nat} {d : D} {lf : Nat} {i : List D × Nat} {x : D} (h : cutI n d lf i) (hn : n ≠ 0) (h2 : 0 < i.2) (hx : d.kids[i.1.length]? = some x) (hs : (cutD n x i.2).1.size + (cutD n x i.2).2 ≤ i.2) :
  cutI n d lf (i.1 ++ [(cutD n x i.2).1], (cutD n x i.2).2) := by
 obtain ⟨h1, h3, h4⟩ := h
 rw [if_neg hn] at h3
 have hlt := (List.getElem?_eq_some_iff.1 hx).1
 refine ⟨by simp; omega, ?_, by simp [ZX, D.sizes]; omega⟩
 rw [if_neg hn]
 simp only [List.length_append, List.length_cons, List.length_nil, Nat.zero_add]
 rw [yI hx, List.foldl_append, ← h3]
 simp only [List.foldl_cons, List.foldl_nil]
 unfold cutS
 rw [if_neg (by omega)]
theorem yfa {n : Nat} {d : D} {lf : Nat} {i : List D × Nat} (h : cutI n d lf i) (he : i.1.length = d.kids.length ∨ n = 0 ∨ i.2 = 0) : cutD (n + 1) d lf = (.mk d.kind d.num (cutX d.text) i.1, i.2) := by
 obtain ⟨h1, h3, h4⟩ := h
 unfold cutD
 by_cases hn : n = 0
 ·rw [if_pos hn] at h3 ⊢
  rw [h3]
 ·rw [if_neg hn] at h3 ⊢
  have : d.kids.foldl (cutS (cutD n)) ([], lf - 1) = i := by
   rcases he with he | he | he
   ·rw [he, List.take_length] at h3; exact h3.symm
   ·exact absurd he hn
   ·conv => lhs; rw [← List.take_append_drop i.1.length d.kids, List.foldl_append, ← h3]
    exact ymH _ _ _ he
  simp only [this]
theorem ydC : ∀ (n : Nat) (d : D) (lf : Nat), 0 < lf → (cutD n d lf).1.size + (cutD n d lf).2 ≤ lf
 | 0, d, lf, h => by simp [cutD, D.size, D.sizes]; omega
 | n + 1, d, lf, h => by
  unfold cutD
  by_cases hn : n = 0
  ·simp [hn, D.size, D.sizes]; omega
  ·simp only [hn, if_false]
   have key : ∀ (l : List D) (st : List D × Nat), D.sizes st.1 + st.2 + 1 ≤ lf → D.sizes (l.foldl (cutS (cutD n)) st).1 + (l.foldl (cutS (cutD n)) st).2 + 1 ≤ lf := by
    intro l
    induction l with
    | nil => intro st h; exact h
    | cons x l ih =>
     intro st hst
     rw [List.foldl_cons]
     refine ih _ ?_
     unfold cutS
     split
     ·exact hst
     ·have := ydC n x st.2 (by omega)
      simp [ZX, D.sizes]; omega
   have := key d.kids ([], lf - 1) (by simp [D.sizes]; omega)
   simp only [D.size]; omega
theorem ylT {P : Program} {f : FuncId} {args : List AV} {σ : Store} {oc : Nat} {n : Nat} {d : D} {lf : Nat} {k m : Int} {tx : ByteArray}
  (h : ACalls P f args σ fun r σ' => ∃ (out : List D) (lv : Nat), WVt σ.objs.length σ.toks.length 0 r (.pv (enc (.mk k m tx out))) ∧ σ'.cut σ.objs.length σ.toks.length = setC σ oc lv ∧ (D.mk k m tx out, lv) = cutD n d lf) : ACalls P f args σ fun r σ' => ∃ y, y = cutD n d lf ∧ r = .pv (enc y.1) ∧ σ' = setC σ oc (y.2 : Int) := by
 refine h.less ?_
 rintro r σ' ⟨out, lv, h1, h2, h3⟩
 refine ⟨_, _, _, h1, Nat.le_refl _, Nat.le_refl _, fun ob hob => ?_, ⟨_, h3, rfl, h2⟩⟩
 have h4 : σ'.objs.take σ.objs.length = (setC σ oc lv).objs := congrArg Store.objs h2
 rw [h4] at hob
 exact ybp hob _ _ _
theorem yr (s : ByteArray) : reserved s = zz s := by
 rcases yeU s with ⟨e, h⟩ | ⟨e, h⟩ | ⟨e, h⟩ | ⟨e, h⟩ | ⟨e, h⟩ | ⟨e, h⟩ | ⟨e, h⟩ | ⟨hn, h⟩
 ·subst e; decide
 ·subst e; decide
 ·subst e; decide
 ·subst e; decide
 ·subst e; decide
 ·subst e; decide
 ·subst e; decide
 ·rw [h]
  have h0 := yhJ s
  have : (Yu.any fun w => decide (w = s)) = false := by
   rw [List.any_eq_false]
   intro w hw
   rw [List.find?_eq_none] at hn
   have hm : ∃ n, (w, n) ∈ ybt := by
    simp only [Yu, List.mem_cons, List.not_mem_nil, or_false] at hw
    rcases hw with rfl | rfl | rfl | rfl | rfl | rfl | rfl
    ·exact ⟨3, .head _⟩
    ·exact ⟨4, .tail _ (.head _)⟩
    ·exact ⟨5, .tail _ (.tail _ (.head _))⟩
    ·exact ⟨6, .tail _ (.tail _ (.tail _ (.head _)))⟩
    ·exact ⟨7, .tail _ (.tail _ (.tail _ (.tail _ (.head _))))⟩
    ·exact ⟨8, .tail _ (.tail _ (.tail _ (.tail _ (.tail _ (.head _)))))⟩
    ·exact ⟨9, .tail _ (.tail _ (.tail _ (.tail _ (.tail _ (.tail _ (.head _))))))⟩
   obtain ⟨n, hm⟩ := hm
   exact hn _ hm
  rw [this] at h0
  simpa using h0
theorem ydA {d : D} (hf : formed d = true) : (d.kind == 2 && ybn d.text) = nmS d := by
 unfold nmS ybn
 by_cases hk : d.kind = 2
 ·have h := (ycH hf hk).2.2
  rw [ZV, h, yr]; simp
 ·have : (d.kind == 2) = false := by simpa using hk
  rw [this]; rfl
end Go.Aw

namespace Go.Aw
open Go
structure Bd where
 nm : ByteArray
 p : List Int
 i : Int
def z7 (b : Bd) : PV := .agg [.str b.nm, .slice (b.p.map (.int .i64)), .int .i64 b.i]
@[go_sem] theorem yjy (b : Bd) : (z7 b).cells = [.str b.nm, .slice (b.p.map (.int .i64)), .int .i64 b.i] := rfl
@[go_sem] theorem ys3 (l : List Bd) : y4 3 (l.map z7) = true := by simp [y4, yjy]
@[go_sem] theorem ys9 (b : Bd) : (z7 b).nrm = z7 b := rfl
structure Vr where
 nm : ByteArray
 p : List Int
 env : List Bd
def yad (v : Vr) : PV := .agg [.str v.nm, .slice (v.p.map (.int .i64)), .slice (v.env.map z7)]
@[go_sem] theorem yjS (v : Vr) : (yad v).cells = [.str v.nm, .slice (v.p.map (.int .i64)), .slice (v.env.map z7)] := rfl
@[go_sem] theorem ysZ (l : List Vr) : y4 3 (l.map yad) = true := by simp [y4, yjS]
@[go_sem] theorem yte (v : Vr) : (yad v).nrm = yad v := rfl
def bdW (p : List Int) (n : Int) (ns : List ByteArray) : List Bd := mapI (fun i x => ⟨x, p, n + (i : Int)⟩) ns
def bdS (p : List Int) (ns : List (ByteArray × Int)) : List Bd := ns.reverse.map fun x => ⟨x.1, p, x.2⟩
theorem yba (p : List Int) (l : List ByteArray) (n : Int) : bdS p (numb l n).reverse = bdW p n l := by
 unfold bdS bdW numb
 rw [List.reverse_reverse]
 apply List.ext_getElem?
 intro i
 rw [List.getElem?_map, zC, zC]
 cases l[i]? <;> rfl
theorem yqM (p : List Int) (a b : List (ByteArray × Int)) : bdS p (a ++ b) = bdS p b ++ bdS p a := by unfold bdS; rw [List.reverse_append, List.map_append]
theorem yo2 {p : List Int} {n : Int} {l : List ByteArray} {k : Nat} {x : ByteArray} (h : l[k]? = some x) : (bdW p n l).take (k + 1) = (bdW p n l).take k ++ [⟨x, p, n + (k : Int)⟩] := yl5 h
theorem ygR (p : List Int) (n : Int) (l : List ByteArray) : (bdW p n l).length = l.length := zu _ _
def scps (d : D) (p : List Int) (env : List Bd) : List (List Bd) := (subs d).map fun q => env ++ bdS p q.1.ns
def rvars : D → List Int → List Bd → List Vr :=
 scata (fun d rs p env => if (yb d == 2) = true then [⟨d.text, p, env⟩] else rs.flatMap fun q => q.2 (p ++ q.1.p) (env ++ bdS p q.1.ns))
theorem Zm (d : D) (p : List Int) (env : List Bd) : rvars d p env = if (yb d == 2) = true then [⟨d.text, p, env⟩] else (subs d).flatMap fun q => rvars q.2 (p ++ q.1.p) (env ++ bdS p q.1.ns) := by
 show scata (β := List Int → List Bd → List Vr) _ d p env = _
 rw [ZB, List.flatMap_map]; rfl
theorem yg7 : ∀ (d : D) (p : List Int) (env : List Bd), (rvars d p env).length ≤ d.size := by
 intro d
 induction d using D.indS with
 | h d ih =>
  intro p env
  rw [Zm]
  split
  ·have := D.size_pos d; simp only [List.length_cons, List.length_nil]; omega
  ·have hb := yaN d
   have : ∀ (r : List (Sub × D)), (∀ q, q ∈ r → ∀ p env, (rvars q.2 p env).length ≤ q.2.size) → (r.flatMap fun q => rvars q.2 (p ++ q.1.p) (env ++ bdS p q.1.ns)).length ≤ (r.map fun q => q.2.size).sum := by
    intro r
    induction r with
    | nil => intro _; simp
    | cons q r ihr =>
     intro h
     have h1 := h q (by simp) (p ++ q.1.p) (env ++ bdS p q.1.ns)
     have h2 := ihr fun x hx => h x (by simp [hx])
     simp only [List.flatMap_cons, List.length_append, List.map_cons, List.sum_cons]; omega
   have h3 := this (subs d) ih
   omega
def YS (x : ByteArray) (env : List Bd) : Option Bd := env.reverse.find? fun b => decide (b.nm = x)
end Go.Aw

namespace Go.Aw
open Go
section
variable {P : Program} {ty : TyT} {σ0 : Store} {N : Nat} {s s' : St} {Q : Exit → St → Prop}
theorem ybH {c : Code} {ι : Type} (no nt nl : Nat) (keep : List Nat) (m : ι → List (Nat × AV)) (L : ι → List (List AV)) (σf : ι → Store) (I : ι → Prop) (μ : ι → Nat) (i0 : ι) (hi0 : I i0) (h0 : Weak σ0 no nt nl s (YI s keep (m i0) (L i0) (σf i0)))
  (round : ∀ i, I i → AWp P σ0 N c (Then (Next σ0 (fun i => YI s keep (m i) (L i) (σf i)) I μ i) Q) (YI s keep (m i) (L i) (σf i))) : AWp P σ0 N (.loop c) Q s :=
 ydq (fun i => YI s keep (m i) (L i) (σf i)) I μ i0 hi0 h0 round

theorem yk8 {c : Code} (i j : Nat) {cs : List AV} {x : AV} {xs : List PV} (e : TypeId) (sz : Nat) (hL : s.L[i]? = some cs) (hx : cs[j]? = some x) (hf : x.fullElems = some xs) (hs : y4 sz xs = true)
  (k : AWp P σ0 N c Q ⟨s.T, s.L.set i (cs.set j (.acc xs s.σ.toks.length)), { s.σ with toks := s.σ.toks ++ [⟨xs.length, e, sz⟩] }⟩) : AWp P σ0 N c Q s := by
 rintro g0 w0 a w ⟨g, r⟩
 obtain ⟨i1, le1⟩ := r.2.1.adopt ⟨xs.length, e, sz⟩
 have i2 : Inv { g with tb := g.tb ++ [none] } { s.σ with toks := s.σ.toks ++ [⟨xs.length, e, sz⟩] } (s.L.set i (cs.set j (.acc xs s.σ.toks.length))) w := by
  refine ⟨i1.lio, by simp only [List.length_set]; exact i1.llam, i1.ltb, i1.glob, i1.nodup, i1.low, i1.kept, i1.base, i1.cells, i1.objs, fun o ds b hds hb => ?_, i1.toks⟩
  rw [List.getElem?_set] at hds
  split at hds
  ·subst_vars
   rw [if_pos (List.getElem?_eq_some_iff.1 hL).1] at hds
   cases hds
   obtain ⟨vs, e', h1, h2, h3, h4⟩ := r.2.1.priv _ cs b hL hb
   refine ⟨vs, e', h1, by rw [List.length_set]; exact h2, h3, fun n y v hy hv => ?_⟩
   rw [List.getElem?_set] at hy
   split at hy
   ·subst_vars
    split at hy
    ·cases hy
     exact (h4 _ x v hx hv).adopt hf r.2.1 ⟨xs.length, e, sz⟩ rfl (by simpa [y4] using hs)
    ·cases hy
   ·exact (h4 n y v hy hv).mono le1 (fun _ _ h => h)
  ·exact i1.priv o ds b hds hb
 exact k g0 w0 a w ⟨_, r.later (σ' := { s.σ with toks := s.σ.toks ++ [⟨xs.length, e, sz⟩] }) (L' := s.L.set i (cs.set j (.acc xs s.σ.toks.length))) le1 (fun _ _ h => h) i2 rfl rfl (fun _ _ => rfl) (Nat.le_refl _) rfl rfl rfl⟩

def yit (s : St) (i j : Nat) (e : TypeId) (sz : Nat) : Option St :=
 match s.L[i]? with
 | some cs => match cs[j]? with
  | some x => match x.fullElems with
   | some xs => if y4 sz xs = true then some ⟨s.T, s.L.set i (cs.set j (.acc xs s.σ.toks.length)), { s.σ with toks := s.σ.toks ++ [⟨xs.length, e, sz⟩] }⟩ else none
   | none => none
  | none => none
 | none => none

theorem yjP {c : Code} (i j : Nat) (e : TypeId) (sz : Nat) (h : yit s i j e sz = some s') (k : AWp P σ0 N c Q s') : AWp P σ0 N c Q s := by
 unfold yit at h
 split at h
 ·split at h
  ·split at h
   ·split at h
    ·cases h; exact yk8 i j e sz ‹_› ‹_› ‹_› ‹_› k
    ·cases h
   ·cases h
  ·cases h
 ·cases h
end
attribute [go_sem] yit
theorem ylP {σ : Store} {o : Nat} {v v' : Int} {T : List Tok} : setC { setC σ o v with toks := T } o v' = { setC σ o v' with toks := T } := by simp [setC]
theorem yiJ (k n : Int) (t : ByteArray) (l : List D) : enc (.mk k n t l) = .agg [.int .i64 k, .int .i64 n, .str t, .slice (l.map enc)] := by rw [yaM]; rfl
end Go.Aw

namespace Go.Aw
open Go
theorem yjo {d : D} (hf : formed d = true) (hk : d.kind = 2) : ybn d.text = (zz d.text == 0) := by
 have h := (ycH hf hk).2.2
 unfold ybn
 rw [ZV, h, yr]; simp
theorem you (s : ByteArray) : decide (0 < zz s) = !(zz s == 0) := by
 have := ybT s
 by_cases h : zz s = 0
 ·rw [h]; rfl
 ·have h1 : 0 < zz s := by omega
  have h2 : (zz s == 0) = false := by simpa using h
  rw [h2]; simpa using h1
def Zy (l : List D) : Bool := (List.range l.length).any (YY l)
theorem yfE {l : List D} {k : Nat} {x : D} (h : l[k]? = some x) : YY l k = (!nmS x || memB ((l.map D.text).take k) x.text) := by
 unfold YY
 rw [h, ← List.map_take]
theorem ZU (d : D) (m : Int) : Yf d m = ((!Zy d.kids && d.kind == 3) && decide ((d.kids.length : Int) ≤ m)) := by
 unfold Yf Ye
 show (d.kind == 3 && (if decide (m < (d.kids.length : Int)) = true then false else !Zy d.kids)) = _
 by_cases h : m < (d.kids.length : Int)
 ·rw [if_pos (by simpa using h)]
  have : decide ((d.kids.length : Int) ≤ m) = false := decide_eq_false (by omega)
  rw [this]; simp
 ·rw [if_neg (by simpa using h)]
  have : decide ((d.kids.length : Int) ≤ m) = true := decide_eq_true (by omega)
  rw [this, Bool.and_true, Bool.and_comm]
def gBad (l : List D) (j : Nat) : Bool := match l[j]? with
 | some x => zU x || YY (l.map D.head) j
 | none => false
theorem yqq {l : List D} {k : Nat} {x : D} (h : l[k]? = some x) : gBad l k = (((x.kind != 3 || (x.kids.length : Int) != 3) || !Yf (d1 x.kids) 8) || (!nmS x.head || memB ((l.map fun x => x.head.text).take k) x.head.text)) := by
 unfold gBad
 rw [h]
 show (zU x || YY (l.map D.head) k) = _
 rw [yfE (x := x.head) (by rw [List.getElem?_map, h]; rfl)]
 unfold zU
 rw [List.map_map]; rfl
theorem yoL (d : D) : zP d = (((!(List.range d.kids.length).any (gBad d.kids) && d.kind == 3) && decide (1 ≤ (d.kids.length : Int))) && decide ((d.kids.length : Int) ≤ 40)) := by
 have hany : (List.range d.kids.length).any (gBad d.kids) = (d.kids.any zU || (List.range d.kids.length).any (YY (d.kids.map D.head))) := by
  rw [Bool.eq_iff_iff, List.any_eq_true, Bool.or_eq_true, List.any_eq_true, List.any_eq_true]
  constructor
  ·rintro ⟨j, hj, h⟩
   unfold gBad at h
   have hj2 := List.mem_range.1 hj
   rw [List.getElem?_eq_getElem hj2] at h
   simp only [Bool.or_eq_true] at h
   rcases h with h | h
   ·exact .inl ⟨_, List.getElem_mem hj2, h⟩
   ·exact .inr ⟨j, hj, h⟩
  ·rintro (⟨x, hx, h⟩ | ⟨j, hj, h⟩)
   ·obtain ⟨j, hj, rfl⟩ := List.getElem_of_mem hx
    refine ⟨j, List.mem_range.2 hj, ?_⟩
    unfold gBad
    rw [List.getElem?_eq_getElem hj]
    simp only [h, Bool.true_or]
   ·have hj2 := List.mem_range.1 hj
    refine ⟨j, hj, ?_⟩
    unfold gBad
    rw [List.getElem?_eq_getElem hj2]
    simp only [h, Bool.or_true]
 unfold zP Ye
 rw [hany, List.length_map]
 generalize d.kids.any zU = a
 generalize (List.range d.kids.length).any (YY (d.kids.map D.head)) = b
 generalize hn : (d.kids.length : Int) = n
 have hn0 : 0 ≤ n := by omega
 by_cases h0 : n = 0
 ·subst h0; simp
 ·by_cases h40 : 40 < n
  ·have e1 : decide (n ≤ 40) = false := decide_eq_false (by omega)
   have e2 : decide (40 < n) = true := decide_eq_true h40
   rw [e1, e2]; simp
  ·have e1 : decide (n ≤ 40) = true := decide_eq_true (by omega)
   have e2 : decide (40 < n) = false := decide_eq_false h40
   have e3 : decide (1 ≤ n) = true := decide_eq_true (by omega)
   have e4 : (n == 0) = false := by simpa using h0
   rw [e1, e2, e3, e4]
   cases hk : (d.kind == 3) <;> cases a <;> cases b <;> simp_all
theorem fm3 (k : List D) : fmOk 3 k = ((k.length : Int) == 2) := rfl
theorem fm4 (k : List D) : fmOk 4 k = ((k.length : Int) == 4) := rfl
theorem fm5 (k : List D) : fmOk 5 k = ((k.length : Int) == 3 && Yf (d1 k) 8) := rfl
theorem fm6 (k : List D) : fmOk 6 k = ((k.length : Int) == 4 && nmS (d1 k)) := rfl
theorem fm7 (k : List D) : fmOk 7 k = ((k.length : Int) == 3 && zP (d1 k)) := rfl
theorem fm8 (k : List D) : fmOk 8 k = ((k.length : Int) == 3) := rfl
theorem fm9 (k : List D) : fmOk 9 k = (((k.length : Int) == 3 && Yf (d1 k) 8) && ((d1 k).kids.length : Int) == 3) := by
 show (((k.length : Int) == 3 && Yf (d1 k) 3) && ((d1 k).kids.length : Int) == 3) = _
 by_cases h : ((d1 k).kids.length : Int) = 3
 ·rw [ZU, ZU, h]; rfl
 ·have : (((d1 k).kids.length : Int) == 3) = false := by simpa using h
  rw [this]; simp
theorem yob {d x : D} {p : List Int} (h : d.sub p = some x) {k : Nat} (hk : k < p.length) {c : D} (hc : d.sub (p.take k) = some c) : ∃ (j : Int) (y : D), p[k]? = some j ∧ 0 ≤ j ∧ j < c.kids.length ∧ c.kids[j.toNat]? = some y ∧ d.sub (p.take (k + 1)) = some y := by
 have hx : p[k]? = some p[k] := by simp [hk]
 have h2 : d.sub (p.take (k + 1) ++ p.drop (k + 1)) = some x := by rw [List.take_append_drop]; exact h
 rw [D.sub_append] at h2
 cases h3 : d.sub (p.take (k + 1)) with
 | none => rw [h3] at h2; cases h2
 | some y =>
  have h4 := h3
  rw [yI hx, D.sub_append, hc] at h4
  simp only [Option.bind_some, D.sub] at h4
  split at h4
  ·rename_i h0
   cases h5 : c.kids[p[k].toNat]? with
   | none => rw [h5] at h4; cases h4
   | some z =>
    rw [h5] at h4
    simp only [Option.bind_some, Option.some.injEq] at h4
    subst h4
    refine ⟨p[k], z, hx, h0, ?_, h5, rfl⟩
    have := (List.getElem?_eq_some_iff.1 h5).1
    omega
  ·cases h4
theorem ye6 : ∀ {p : List Int} {d x : D}, d.sub p = some x → x.size + p.length ≤ d.size
 | [], d, x, h => by simp [D.sub] at h; subst h; simp
 | i :: p, d, x, h => by
  simp only [D.sub] at h
  split at h
  ·cases h5 : d.kids[i.toNat]? with
   | none => rw [h5] at h; cases h
   | some z =>
    rw [h5] at h
    have h6 := ye6 (p := p) (d := z) (x := x) (by simpa using h)
    have h7 := D.size_kid_lt (List.mem_of_getElem? h5)
    simp only [List.length_cons]; omega
  ·cases h
theorem yfH : ∀ {p : List Int} {d x : D}, d.sub p = some x → formed d = true → formed x = true
 | [], d, x, h, hf => by simp [D.sub] at h; subst h; exact hf
 | i :: p, d, x, h, hf => by
  simp only [D.sub] at h
  split at h
  ·cases h5 : d.kids[i.toNat]? with
   | none => rw [h5] at h; cases h
   | some z =>
    rw [h5] at h
    exact yfH (p := p) (d := z) (x := x) (by simpa using h) (yT hf (List.mem_of_getElem? h5))
  ·cases h
theorem yeE {d : D} (hf : formed d = true) {q : Sub × D} (hq : q ∈ subs d) : formed q.2 = true := yfH (D.sub_subs hq) hf
end Go.Aw

namespace Go.Aw
open Go
def prts (d : D) : List (List Int) := (subs d).map fun q => q.1.p
theorem yag (d : D) : (prts d).length = (subs d).length := by unfold prts; rw [List.length_map]
theorem yaf {d : D} {k : Nat} {q : Sub × D} (h : (subs d)[k]? = some q) : (prts d)[k]? = some q.1.p := by unfold prts; rw [List.getElem?_map, h]; rfl
theorem yo7 {d : D} (h : yb d = 4) (hl : d.kids.length = 4) : prts d = [[1], [2], [3]] := by
 unfold prts
 rw [zX (.inl h)]
 generalize d.kids = l at hl
 match l, hl with
 | [a, b, c, e], _ => rfl
theorem yoM {d : D} (h : yb d = 8) (hl : d.kids.length = 3) : prts d = [[1], [2]] := by
 unfold prts
 rw [zX (.inr h)]
 generalize d.kids = l at hl
 match l, hl with
 | [a, b, c], _ => rfl
theorem ykz {d : D} (h : yb d = 5 ∨ yb d = 9) : prts d = [[2]] := by unfold prts; rw [yU h]; rfl
theorem yoV {d : D} (h : yb d = 6) : prts d = [[2], [3]] := by unfold prts; rw [yM h]; rfl
theorem yoc {d : D} (h : yb d = 7) {k : Nat} (hk : k < (d1 d.kids).kids.length) : (prts d)[k]? = some [1, (k : Int), 2] := by
 obtain ⟨x, hx, _⟩ := ym hk
 rw [yaf (zB h hx)]; rfl
theorem ylF {d : D} (h : yb d = 7) : (prts d)[(d1 d.kids).kids.length]? = some [2] ∧ (prts d).length = (d1 d.kids).kids.length + 1 := by
 obtain ⟨h1, h2⟩ := zR h
 exact ⟨by rw [yaf h1]; rfl, by rw [yag, h2]⟩
theorem yoH {d : D} (h : yb d = 10) {k : Nat} (hk : k < d.kids.length) : (prts d)[k]? = some [(k : Int)] := by
 obtain ⟨x, hx, _⟩ := ym hk
 have : (subs d)[k]? = some (sub0 k x) := by rw [Yr h, zC, hx]; rfl
 rw [yaf this]; rfl
theorem ymw {d : D} (h : yb d = 10) : (prts d).length = d.kids.length := by rw [yag, Yr h, zu]
theorem ylE {d : D} (h : yb d ≠ 4 ∧ yb d ≠ 5 ∧ yb d ≠ 9 ∧ yb d ≠ 6 ∧ yb d ≠ 8 ∧ yb d ≠ 7 ∧ yb d ≠ 10) : prts d = [] := by
 unfold prts
 rw [Yb (by cases shape d <;> omega)]; rfl
theorem yqK {d : D} (h : yb d = 4) : d.kids.length = 4 := by cases shape d <;> omega
theorem yqs {d : D} (h : yb d = 8) : d.kids.length = 3 := by cases shape d <;> omega
theorem yeg (d : D) : (subs d).length ≤ d.size := by
 have hb := yaN d
 have : ∀ r : List (Sub × D), r.length ≤ (r.map fun q => q.2.size).sum := by
  intro r
  induction r with
  | nil => simp
  | cons q r ih => have := D.size_pos q.2; simp only [List.length_cons, List.map_cons, List.sum_cons]; omega
 have := this (subs d)
 omega
theorem ymC {d : D} (hf : yb d = 5 ∨ yb d = 9) : Yf (d1 d.kids) 8 = true := by
 cases shape d with
 | fn _ _ hn => exact hn
 | up _ _ hn h3 => rw [ZU] at hn ⊢; rw [h3] at hn ⊢; exact hn
 | none h => omega
 | num h => omega
 | name h => omega
 | quote h => omega
 | iff h => omega
 | lett h => omega
 | recc h => omega
 | seqq h => omega
 | app h => omega
theorem yfl {d : D} {m : Int} (h : Yf d m = true) : Zy d.kids = false ∧ d.kind = 3 := by
 rw [ZU] at h
 simp only [Bool.and_eq_true, Bool.not_eq_true', beq_iff_eq] at h
 exact h.1
theorem yqd {d : D} (h : yb d = 7) {x : D} (hx : x ∈ (d1 d.kids).kids) : Yf (d1 x.kids) 8 = true := by
 have hg : zP (d1 d.kids) = true := by cases shape d <;> first | assumption | omega
 unfold zP at hg
 split at hg
 ·cases hg
 ·split at hg
  ·cases hg
  ·rename_i h2
   have h3 : zU x = false := by
    cases hb : zU x with
    | false => rfl
    | true => exact absurd (List.any_eq_true.2 ⟨x, hx, hb⟩) h2
   unfold zU at h3
   simp only [Bool.or_eq_false_iff, Bool.not_eq_false'] at h3
   exact h3.2
end Go.Aw

namespace Go.Aw
open Go
def wEnv (env : List Bd) (p : List Int) (n : Int) (ns : List ByteArray) (k : Nat) : List Bd := env ++ (bdW p n ns).take k
theorem yni (env : List Bd) (p : List Int) (n : Int) (ns : List ByteArray) : wEnv env p n ns 0 = env := by unfold wEnv; simp
theorem ymx {env : List Bd} {p : List Int} {n : Int} {ns : List ByteArray} {k : Nat} {x : ByteArray} (h : ns[k]? = some x) : (wEnv env p n ns (k + 1)).map z7 = (wEnv env p n ns k).map z7 ++ [.agg [.str x, .slice (p.map (.int .i64)), .int .i64 (n + (k : Int))]] := by
 unfold wEnv
 rw [yo2 h, ← List.append_assoc, List.map_append]; rfl
theorem yiK {env : List Bd} {p : List Int} {n : Int} {ns : List ByteArray} {k : Nat} (h : k ≤ ns.length) : (wEnv env p n ns k).length = env.length + k := by
 unfold wEnv; simp [ygR]; omega
theorem yoI (env : List Bd) (p : List Int) (n : Int) (ns : List ByteArray) : wEnv env p n ns ns.length = env ++ bdW p n ns := by
 unfold wEnv; rw [List.take_of_length_le (by rw [ygR]; exact Nat.le_refl _)]
def scpP (e : List Bd) : PV := .slice (e.map z7)
@[go_sem] theorem yll (e : List Bd) : (scpP e).cells = [scpP e] := rfl
@[go_sem] theorem ysQ (l : List (List Bd)) : y4 1 (l.map scpP) = true := by simp [y4, yll]
theorem yfn {d : D} {p : List Int} {env : List Bd} {k : Nat} {q : Sub × D} (h : (subs d)[k]? = some q) : (scps d p env)[k]? = some (env ++ bdS p q.1.ns) := by unfold scps; rw [List.getElem?_map, h]; rfl
theorem yiA (d : D) (p : List Int) (env : List Bd) : (scps d p env).length = (subs d).length := by unfold scps; rw [List.length_map]
theorem yi5 {d : D} {p : List Int} (h : yb d = 5 ∨ yb d = 9) {q : Sub × D} (hq : q ∈ subs d) : bdS p q.1.ns = bdW p 0 (ownS d) := by
 rw [yU h] at hq
 rw [List.mem_singleton.1 hq]
 exact yba _ _ _
theorem yih {d : D} {p : List Int} (h : yb d = 6) {q : Sub × D} (hq : (subs d)[0]? = some q) : bdS p q.1.ns = [] := by
 rw [yM h] at hq
 cases hq; rfl
theorem yif {d : D} {p : List Int} (h : yb d = 6) {q : Sub × D} (hq : (subs d)[1]? = some q) : bdS p q.1.ns = bdW p 0 (ownS d) := by
 rw [yM h] at hq
 cases hq
 exact yba _ _ _
theorem ykp {d : D} (h : yb d = 6) : (subs d).length = 2 := by rw [yM h]; rfl
theorem ykf {d : D} {p : List Int} (h : yb d = 7) {k : Nat} {q : Sub × D} (hq : (subs d)[k]? = some q) {x : D} (hx : (d1 d.kids).kids[k]? = some x) : bdS p q.1.ns = bdW p 0 (ownS d) ++ bdW p (yR (d1 d.kids).kids k) (parS x) := by
 rw [zB h hx] at hq
 cases hq
 show bdS p (_ ++ _) = _
 rw [yqM, yba, yba]
theorem yid {d : D} {p : List Int} (h : yb d = 7) {q : Sub × D} (hq : (subs d)[(d1 d.kids).kids.length]? = some q) : bdS p q.1.ns = bdW p 0 (ownS d) := by
 rw [(zR h).1] at hq
 cases hq
 exact yba _ _ _
theorem yi2 {d : D} {p : List Int} (h : yb d ≠ 5 ∧ yb d ≠ 9 ∧ yb d ≠ 6 ∧ yb d ≠ 7) {q : Sub × D} (hq : q ∈ subs d) : bdS p q.1.ns = [] := by
 rw [ye7 h hq]; rfl
theorem yc0 (l : List ByteArray) (n : Int) : (numb l n).length = l.length := zu _ _
theorem ykj (p : List Int) (ns : List (ByteArray × Int)) : (bdS p ns).length = ns.length := by unfold bdS; simp
theorem ypb {d : D} {q : Sub × D} (hq : q ∈ subs d) : q.1.ns.length + q.2.size ≤ d.size := by
 have hb := yaN d
 have h2 : q.2.size ≤ ((subs d).map fun q => q.2.size).sum := by
  have : ∀ r : List (Sub × D), q ∈ r → q.2.size ≤ (r.map fun q => q.2.size).sum := by
   intro r
   induction r with
   | nil => intro h; simp at h
   | cons x r ih =>
    intro h
    rcases List.mem_cons.1 h with rfl | h
    ·simp
    ·have := ih h; simp; omega
  exact this _ hq
 have h1 : q.1.ns.length ≤ (ownS d).length + (if (yb d == 7) = true then ((d1 d.kids).kids.map fun x => (parS x).length).sum else 0) := by
  by_cases h5 : yb d = 5 ∨ yb d = 9
  ·rw [yU h5] at hq
   rw [List.mem_singleton.1 hq]
   simp [subL, yc0]
  by_cases h6 : yb d = 6
  ·rw [yM h6] at hq
   simp only [List.mem_cons, List.not_mem_nil, or_false] at hq
   rcases hq with rfl | rfl
   ·simp
   ·simp [subL, yc0]
  by_cases h7 : yb d = 7
  ·rw [zd h7, List.mem_append, List.mem_singleton] at hq
   rw [if_pos (by simpa using h7)]
   rcases hq with hq | rfl
   ·obtain ⟨i, x, hx, rfl⟩ := YL hq
    have : (parS x).length ≤ ((d1 d.kids).kids.map fun x => (parS x).length).sum := by
     have : ∀ r : List D, x ∈ r → (parS x).length ≤ (r.map fun x => (parS x).length).sum := by
      intro r
      induction r with
      | nil => intro h; simp at h
      | cons y r ih =>
       intro h
       rcases List.mem_cons.1 h with rfl | h
       ·simp
       ·have := ih h; simp; omega
     exact this _ (List.mem_of_getElem? hx)
    simp [subR, yc0]; omega
   ·simp [subL, yc0]
  ·rw [ye7 ⟨fun h => h5 (.inl h), fun h => h5 (.inr h), h6, h7⟩ hq]; simp
 omega
def rvK (d : D) (p : List Int) (env : List Bd) (k : Nat) : List Vr := ((subs d).take k).flatMap fun q => rvars q.2 (p ++ q.1.p) (env ++ bdS p q.1.ns)
theorem yoy (d : D) (p : List Int) (env : List Bd) : rvK d p env 0 = [] := rfl
theorem yfp {d : D} {p : List Int} {env : List Bd} {k : Nat} {q : Sub × D} (h : (subs d)[k]? = some q) : rvK d p env (k + 1) = rvK d p env k ++ rvars q.2 (p ++ q.1.p) (env ++ bdS p q.1.ns) := by
 unfold rvK; rw [yI h, List.flatMap_append]; simp
theorem yea {d : D} {p : List Int} {env : List Bd} (h : yb d ≠ 2) : rvK d p env (subs d).length = rvars d p env := by
 rw [Zm, if_neg (by simpa using h)]; unfold rvK; rw [List.take_length]
theorem yqp {d : D} {p : List Int} {env : List Bd} (h : yb d ≠ 2) (k : Nat) : (rvK d p env k).length ≤ d.size := by
 have h1 := yg7 d p env
 rw [← yea h] at h1
 have h2 : rvK d p env (subs d).length = rvK d p env k ++ ((subs d).drop k).flatMap fun q => rvars q.2 (p ++ q.1.p) (env ++ bdS p q.1.ns) := by
  unfold rvK
  rw [List.take_length, ← List.flatMap_append, List.take_append_drop]
 rw [h2, List.length_append] at h1
 omega
theorem ykS : ∀ (d : D) (p : List Int) (env : List Bd) (v : Vr), v ∈ rvars d p env → v.env.length ≤ env.length + d.size := by
 intro d
 induction d using D.indS with
 | h d ih =>
  intro p env v hv
  rw [Zm] at hv
  split at hv
  ·rw [List.mem_singleton.1 hv]; simp
  ·obtain ⟨q, hq, hv⟩ := List.mem_flatMap.1 hv
   have h1 := ih q hq _ _ v hv
   have h2 := ypb hq
   rw [List.length_append, ykj] at h1
   omega
theorem ylM {d : D} (v : Vr) (h : v ∈ rvars d [] []) : v.env.length ≤ ([] : List Bd).length + d.size := ykS d [] [] v h
def bd0 : Bd := ⟨⟨#[]⟩, [], 0⟩
theorem yjv {x : ByteArray} {env : List Bd} {k : Nat} {b : Bd} (h : NotYet (fun b : Bd => decide (b.nm = x)) env.reverse k) (hb : env.reverse[k]? = some b) (hx : decide (b.nm = x) = true) : YS x env = some b := yc7 h hb hx
theorem ylc {x : ByteArray} {env : List Bd} (h : NotYet (fun b : Bd => decide (b.nm = x)) env.reverse env.reverse.length) : YS x env = none := ydt h
theorem yry {α : Type} {l : List α} {k : Nat} (h : k < l.length) : ∃ x, l.reverse[k]? = some x ∧ l[l.length - 1 - k]? = some x := by
 refine ⟨l[l.length - 1 - k], ?_, by simp⟩
 rw [List.getElem?_reverse h]; simp
end Go.Aw

namespace Go.Aw
open Go
def scE (env : List Bd) : List (ByteArray × (List Int × Int)) := env.reverse.map fun b => (b.nm, (b.p, b.i))
def bnM (p : List Int) (n : Int) (ns : List ByteArray) : List (List Int × Int) := mapI (fun i _ => (p, n + (i : Int))) ns
def namM {S : Type} (_ : D) (p : List Int) (ns : List ByteArray) (n : Int) (s : S) : List (List Int × Int) × S := (bnM p n ns, s)
theorem yke (p : List Int) (n : Int) (ns : List ByteArray) : (bnM p n ns).length = ns.length := zu _ _
theorem yb0 (env : List Bd) (p : List Int) (n : Int) (ns : List ByteArray) : yw (scE env) ns (bnM p n ns) = scE (env ++ bdW p n ns) := by
 unfold yw scE
 rw [List.reverse_append, List.map_append]
 congr 1
 rw [List.map_reverse]
 congr 1
 unfold bnM bdW mapI
 rw [List.map_map]
 have key : ∀ (l : List ByteArray) (j : Nat), l.zip ((l.zipIdx j).map fun q => (p, n + ((q.2 : Nat) : Int))) = (l.zipIdx j).map ((fun b : Bd => (b.nm, (b.p, b.i))) ∘ fun q => (⟨q.1, p, n + ((q.2 : Nat) : Int)⟩ : Bd)) := by
  intro l
  induction l with
  | nil => intro j; rfl
  | cons x l ih =>
   intro j
   rw [List.zipIdx_cons, List.map_cons, List.zip_cons_cons, ih (j + 1), List.map_cons]; rfl
 exact key ns 0
theorem ykQ (env : List Bd) (x : ByteArray) : zl (scE env) x = (YS x env).map fun b => (b.p, b.i) := by
 unfold zl scE YS
 rw [List.find?_map, Option.map_map]
 rfl
theorem yav {d : D} {p : List Int} {env : List Bd} {S : Type} (f : S → Vr → S) {k : Nat} {q : Sub × D} (h : (subs d)[k]? = some q) (s : S) : (rvK d p env (k + 1)).foldl f s = (rvars q.2 (p ++ q.1.p) (env ++ bdS p q.1.ns)).foldl f ((rvK d p env k).foldl f s) := by
 rw [yfp h, List.foldl_append]
theorem yqk {S : Type} (g : List Int → Option (List Int × Int) → S → S) : ∀ (d : D) (p : List Int) (env : List Bd) (s : S), wk namM (fun _ p b s => g p b s) d p (scE env) s = (rvars d p env).foldl (fun s v => g v.p (zl (scE v.env) v.nm) s) s := by
 intro d
 induction d using D.indS with
 | h d ih =>
  intro p env s
  by_cases h2 : yb d = 2
  ·rw [yco _ _ h2, Zm, if_pos (by simpa using h2)]; rfl
  have hall := yea (p := p) (env := env) h2
  rw [← hall]
  by_cases h5 : yb d = 5 ∨ yb d = 9
  ·rw [ycC _ _ h5]
   have hq : (subs d)[0]? = some (subL d 2 (d2 d.kids)) := by rw [yU h5]; rfl
   have hl : (subs d).length = 1 := by rw [yU h5]; rfl
   rw [hl, yav _ hq]
   have := ih _ (List.mem_of_getElem? hq) (p ++ [2]) (env ++ bdW p 0 (ownS d)) s
   show wk _ _ (d2 d.kids) (p ++ [2]) (yw (scE env) (ownS d) (bnM p 0 (ownS d))) s = _
   rw [yb0, show (subL d 2 (d2 d.kids)).2 = d2 d.kids from rfl] at *
   rw [this, yi5 h5 (List.mem_of_getElem? hq)]; rfl
  by_cases h6 : yb d = 6
  ·rw [ydU _ _ h6]
   have hq0 : (subs d)[0]? = some (⟨[2], []⟩, d2 d.kids) := by rw [yM h6]; rfl
   have hq1 : (subs d)[1]? = some (subL d 3 (d.kids.getD 3 dnone)) := by rw [yM h6]; rfl
   rw [ykp h6, yav _ hq1, yav _ hq0]
   have i0 := ih _ (List.mem_of_getElem? hq0) (p ++ [2]) env s
   have i1 := ih _ (List.mem_of_getElem? hq1) (p ++ [3]) (env ++ bdW p 0 (ownS d)) ((rvars (d2 d.kids) (p ++ [2]) env).foldl (fun s v => g v.p (zl (scE v.env) v.nm) s) s)
   show wk _ _ (d.kids.getD 3 dnone) (p ++ [3]) (yw (scE env) (ownS d) (bnM p 0 (ownS d))) (wk _ _ (d2 d.kids) (p ++ [2]) (scE env) s) = _
   rw [yb0]
   have e0 : wk namM (fun _ p b s => g p b s) (d2 d.kids) (p ++ [2]) (scE env) s = (rvars (d2 d.kids) (p ++ [2]) env).foldl (fun s v => g v.p (zl (scE v.env) v.nm) s) s := i0
   rw [e0]
   refine Eq.trans (i1 : _) ?_
   rw [yif h6 hq1, yih h6 hq0, List.append_nil]; rfl
  by_cases h7 : yb d = 7
  ·rw [ydW _ _ h7]
   obtain ⟨hql, hll⟩ := zR h7
   have hd : ∀ k, k ≤ (d1 d.kids).kids.length → wkd namM (fun _ p b s => g p b s) d p (yw (scE env) (ownS d) (namM d p (ownS d) 0 s).1) k (namM d p (ownS d) 0 s).2 = (rvK d p env k).foldl (fun s v => g v.p (zl (scE v.env) v.nm) s) s := by
    intro k
    induction k with
    | zero => intro _; rfl
    | succ k ihk =>
     intro hk
     obtain ⟨x, hx, _⟩ := ym (show k < (d1 d.kids).kids.length by omega)
     rw [yaj _ _ hx, ihk (by omega), yav _ (zB h7 hx)]
     have hm := List.mem_of_getElem? (zB h7 hx)
     have := ih _ hm (p ++ [1, (k : Int), 2]) (env ++ bdW p 0 (ownS d) ++ bdW p (yR (d1 d.kids).kids k) (parS x)) ((rvK d p env k).foldl (fun s v => g v.p (zl (scE v.env) v.nm) s) s)
     show wk _ _ (d2 x.kids) (p ++ [1, (k : Int), 2]) (yw (yw (scE env) (ownS d) (bnM p 0 (ownS d))) (parS x) (bnM p (yR (d1 d.kids).kids k) (parS x))) _ = _
     rw [yb0, yb0]
     refine Eq.trans (this : _) ?_
     rw [ykf h7 (zB h7 hx) hx, List.append_assoc]; rfl
   rw [hd _ (Nat.le_refl _), hll, yav _ hql]
   have := ih _ (List.mem_of_getElem? hql) (p ++ [2]) (env ++ bdW p 0 (ownS d)) ((rvK d p env (d1 d.kids).kids.length).foldl (fun s v => g v.p (zl (scE v.env) v.nm) s) s)
   show wk _ _ (d2 d.kids) (p ++ [2]) (yw (scE env) (ownS d) (bnM p 0 (ownS d))) _ = _
   rw [yb0]
   refine Eq.trans (this : _) ?_
   rw [yid h7 hql]; rfl
  ·have hk : yb d ≠ 5 ∧ yb d ≠ 9 ∧ yb d ≠ 6 ∧ yb d ≠ 7 := ⟨fun h => h5 (.inl h), fun h => h5 (.inr h), h6, h7⟩
   rw [← ycv namM (fun _ p b s => g p b s) (d := d) (p := p) (sc := scE env) (s := s) ⟨h2, hk⟩]
   have key : ∀ k, k ≤ (subs d).length → wks namM (fun _ p b s => g p b s) d p (scE env) k s = (rvK d p env k).foldl (fun s v => g v.p (zl (scE v.env) v.nm) s) s := by
    intro k
    induction k with
    | zero => intro _; rfl
    | succ k ihk =>
     intro hkl
     obtain ⟨q, hq, hqm⟩ := ym (show k < (subs d).length by omega)
     rw [yai _ _ hq, ihk (by omega), yav _ hq, yi2 hk hqm, List.append_nil]
     exact ih _ hqm _ _ _
   exact key _ (Nat.le_refl _)
theorem yfT : ∀ (d : D) (p : List Int) (env : List Bd) (v : Vr), v ∈ rvars d p env → ∃ r y, v.p = p ++ r ∧ d.sub r = some y ∧ yb y = 2 ∧ y.text = v.nm := by
 intro d
 induction d using D.indS with
 | h d ih =>
  intro p env v hv
  rw [Zm] at hv
  split at hv
  ·rename_i h2
   rw [List.mem_singleton.1 hv]
   exact ⟨[], d, by simp, rfl, by simpa using h2, rfl⟩
  ·obtain ⟨q, hq, hv⟩ := List.mem_flatMap.1 hv
   obtain ⟨r, y, h1, h2, h3, h4⟩ := ih q hq _ _ v hv
   exact ⟨q.1.p ++ r, y, by rw [h1, List.append_assoc], by rw [D.sub_append, D.sub_subs hq]; exact h2, h3, h4⟩
theorem ylt {d : D} {i j : Nat} {q q' : Sub × D} (hi : (subs d)[i]? = some q) (hj : (subs d)[j]? = some q') {r r' : List Int} (h : q.1.p ++ r = q'.1.p ++ r') : i = j := by
 have hm : ∀ (f : Nat → D → Sub × D) (l : List D) (c : Int), (∀ i x, (f i x).1.p = [(i : Int) + c]) → subs d = mapI f l → i = j := by
  intro f l c hf hs
  rw [hs, zC] at hi hj
  obtain ⟨x, hx, rfl⟩ := Option.map_eq_some_iff.1 hi
  obtain ⟨y, hy, rfl⟩ := Option.map_eq_some_iff.1 hj
  rw [hf, hf] at h
  have := (List.cons.inj h).1
  omega
 by_cases h4 : yb d = 4 ∨ yb d = 8
 ·exact hm sub1 _ 1 (fun _ _ => rfl) (zX h4)
 by_cases h10 : yb d = 10
 ·exact hm sub0 _ 0 (fun i _ => by show [(i : Int)] = _; rw [Int.add_zero]) (Yr h10)
 by_cases h5 : yb d = 5 ∨ yb d = 9
 ·rw [yU h5] at hi hj
  match i, j, hi, hj with
  | 0, 0, _, _ => rfl
  | 0, j + 1, _, hj => simp at hj
  | i + 1, _, hi, _ => simp at hi
 by_cases h6 : yb d = 6
 ·rw [yM h6] at hi hj
  match i, j, hi, hj with
  | 0, 0, _, _ => rfl
  | 1, 1, _, _ => rfl
  | 0, 1, hi, hj => simp at hi hj; subst hi hj; simp [subL] at h
  | 1, 0, hi, hj => simp at hi hj; subst hi hj; simp [subL] at h
  | i + 2, _, hi, _ => simp at hi
  | _, j + 2, _, hj => simp at hj
 by_cases h7 : yb d = 7
 ·obtain ⟨hql, hll⟩ := zR h7
  have hi2 := (List.getElem?_eq_some_iff.1 hi).1
  have hj2 := (List.getElem?_eq_some_iff.1 hj).1
  have hcase : ∀ k q, (subs d)[k]? = some q → (k = (d1 d.kids).kids.length ∧ q.1.p = [2]) ∨ (k < (d1 d.kids).kids.length ∧ q.1.p = [1, (k : Int), 2]) := by
   intro k q hk
   by_cases hkl : k < (d1 d.kids).kids.length
   ·obtain ⟨x, hx, _⟩ := ym hkl
    rw [zB h7 hx] at hk
    cases hk
    exact .inr ⟨hkl, rfl⟩
   ·have := (List.getElem?_eq_some_iff.1 hk).1
    have hke : k = (d1 d.kids).kids.length := by omega
    subst hke
    rw [hql] at hk
    cases hk
    exact .inl ⟨rfl, rfl⟩
  rcases hcase i q hi with ⟨h1, e1⟩ | ⟨h1, e1⟩ <;> rcases hcase j q' hj with ⟨h2, e2⟩ | ⟨h2, e2⟩ <;> rw [e1, e2] at h
  ·omega
  ·simp at h
  ·simp at h
  ·simp at h; omega
 ·rw [Yb (by cases shape d <;> omega)] at hi
  simp at hi
theorem yjw : ∀ (d : D) (p : List Int) (env : List Bd), ((rvars d p env).map Vr.p).Nodup := by
 intro d
 induction d using D.indS with
 | h d ih =>
  intro p env
  by_cases h2 : yb d = 2
  ·rw [Zm, if_pos (by simpa using h2)]; simp
  rw [← yea h2]
  have key : ∀ k, k ≤ (subs d).length → ((rvK d p env k).map Vr.p).Nodup ∧ ∀ v, v ∈ rvK d p env k → ∃ j q r, j < k ∧ (subs d)[j]? = some q ∧ v.p = p ++ (q.1.p ++ r) := by
   intro k
   induction k with
   | zero => intro _; exact ⟨by simp [rvK], fun v hv => by simp [rvK] at hv⟩
   | succ k ihk =>
    intro hk
    obtain ⟨h3, h4⟩ := ihk (by omega)
    obtain ⟨q, hq, hqm⟩ := ym (show k < (subs d).length by omega)
    have hin : ∀ v, v ∈ rvars q.2 (p ++ q.1.p) (env ++ bdS p q.1.ns) → ∃ r, v.p = p ++ (q.1.p ++ r) := fun v hv => by
     obtain ⟨r, y, e, _⟩ := yfT _ _ _ v hv
     exact ⟨r, by rw [e, List.append_assoc]⟩
    rw [yfp hq]
    refine ⟨?_, fun v hv => ?_⟩
    ·rw [List.map_append, List.nodup_append]
     refine ⟨h3, ih q hqm _ _, fun a ha b hb e => ?_⟩
     subst e
     obtain ⟨v, hv, rfl⟩ := List.mem_map.1 ha
     obtain ⟨u, hu, e⟩ := List.mem_map.1 hb
     obtain ⟨j, q', r, hj, hq', e1⟩ := h4 v hv
     obtain ⟨r', e2⟩ := hin u hu
     rw [e2, e1] at e
     have := ylt hq hq' (List.append_cancel_left e)
     omega
    ·rcases List.mem_append.1 hv with hv | hv
     ·obtain ⟨j, q', r, hj, hq', e1⟩ := h4 v hv
      exact ⟨j, q', r, by omega, hq', e1⟩
     ·obtain ⟨r, e⟩ := hin v hv
      exact ⟨k, q, r, by omega, hq, e⟩
  exact (key _ (Nat.le_refl _)).1
def varM (path : List Int) (p : List Int) (b : Option (List Int × Int)) (s : Option (Option (List Int × Int))) : Option (Option (List Int × Int)) := if p = path then some b else s
def mnF (d : D) (path : List Int) : Option (Option (List Int × Int)) := wk namM (fun _ p b s => varM path p b s) d [] [] none
theorem ysG (path : List Int) : ∀ (l : List Vr) (s : Option (Option (List Int × Int))), (l.map Vr.p).Nodup → l.foldl (fun s v => varM path v.p (zl (scE v.env) v.nm) s) s = match l.find? (fun v => decide (v.p = path)) with
 | some v => some ((YS v.nm v.env).map fun b => (b.p, b.i))
 | none => s := by
 intro l
 induction l with
 | nil => intro s _; rfl
 | cons v l ih =>
  intro s hn
  simp only [List.map_cons, List.nodup_cons] at hn
  rw [List.foldl_cons, ih _ hn.2, List.find?_cons]
  by_cases h : v.p = path
  ·have hno : l.find? (fun v => decide (v.p = path)) = none := by
    rw [List.find?_eq_none]
    intro u hu hup
    refine hn.1 (List.mem_map.2 ⟨u, hu, ?_⟩)
    rw [h]; simpa using hup
   rw [hno]
   simp only [varM, h, if_true, decide_true, ykQ]
  ·simp only [varM, h, if_false, decide_false]
theorem ymJ (d : D) (path : List Int) : mnF d path = ((rvars d [] []).find? fun v => decide (v.p = path)).map fun v => (YS v.nm v.env).map fun b => (b.p, b.i) := by
 unfold mnF
 have h := yqk (varM path) d [] [] none
 have e : scE [] = [] := rfl
 rw [e] at h
 rw [h, ysG path _ _ (yjw d [] [])]
 cases (rvars d [] []).find? fun v => decide (v.p = path) <;> rfl
theorem yiG : ∀ (d : D) (p : List Int) (env : List Bd), p.length + 3 * d.size ≤ 400000000 → (∀ b, b ∈ env → b.p.length ≤ 400000000) → ∀ v, v ∈ rvars d p env → ∀ b, b ∈ v.env → b.p.length ≤ 400000000 := by
 intro d
 induction d using D.indS with
 | h d ih =>
  intro p env hp he v hv b hb
  rw [Zm] at hv
  split at hv
  ·rw [List.mem_singleton.1 hv] at hb; exact he b hb
  ·obtain ⟨q, hq, hv⟩ := List.mem_flatMap.1 hv
   have h1 := Yc hq
   have h2 := Ys hq
   refine ih q hq (p ++ q.1.p) (env ++ bdS p q.1.ns) (by rw [List.length_append]; omega) (fun c hc => ?_) v hv b hb
   rcases List.mem_append.1 hc with hc | hc
   ·exact he c hc
   ·unfold bdS at hc
    obtain ⟨x, _, rfl⟩ := List.mem_map.1 hc
    show p.length ≤ _
    omega
theorem yqY (d : D) (path : List Int) (b : Option (List Int × Int)) (h : mnF d path = some b) (hd : d.size ≤ 100000000) : ((b.map (·.1)).getD []).length ≤ 1000000000 := by
 rw [ymJ] at h
 cases hf : (rvars d [] []).find? fun v => decide (v.p = path) with
 | none => rw [hf] at h; cases h
 | some v =>
  rw [hf] at h
  simp only [Option.map_some, Option.some.injEq] at h
  subst h
  cases hm : YS v.nm v.env with
  | none => simp
  | some c =>
   have hc : c ∈ v.env := by
    have := List.mem_of_find?_eq_some hm
    exact List.mem_reverse.1 this
   have := yiG d [] [] (by simp; omega) (fun b hb => by simp at hb) v (List.mem_of_find?_eq_some hf) c hc
   simp; omega
end Go.Aw

namespace Go.Aw
open Go
section
variable {ρ : Option Nat} {P : Program} {ty : TyT} {σ0 : Store} {N : Nat} {s : St} {o : Oper} {os : List Oper} {ops : Array Oper} {next : St → Prop} {K : St → Prop}
theorem yo3 {B : Nat} {S : Nat → Nat → Prop} {w : World} {v : Value} (h : RP B S w (.slice []) v) : ∃ a n c, v = .slice a n c := by
 cases h with
 | empty => exact ⟨_, _, _, rfl⟩
 | slice => exact ⟨_, _, _, rfl⟩
theorem ymF (hty : TyOk P ty) {t e : TypeId} {ti : TyI} {x : Operand} {yt : TypeId} (ho : o.op = .binOp .eql t x (.const (.slice none 0 0)) yt) (hti : ty t = some ti) (hk : ti.kind = .slice e)
  (hx : ev s x = .pv (.slice [])) (hd : yJ N o.dst = true) (hn : ∀ b, next (s.put o.dst (.pv (.bool b)))) : AOp P σ0 N o next s := by
 rintro g0 w0 a w nx Q ⟨g, r⟩ hnx
 have hu : P.underlying t = some (.slice e) := (hty _ _ hti).slice hk
 obtain ⟨ad, n, c, hx'⟩ : ∃ ad n c, a.eval x = .slice ad n c := by
  have h := r.ev x
  rw [hx] at h
  exact yo3 h.pv_inv
 have hy' : a.eval (.const (.slice none 0 0)) = .slice none 0 0 := rfl
 have hrun : (execOp a.eval o).run P w = .ok (.value (.bool ad.isNone)) w := by
  simp only [execOp, ho, hx', hy', Sem.run_bind, yaQ, Result.andThen_ok, binOp, Ze hu, Sem.run_pure]
 unfold opW
 rw [hrun]
 exact hnx _ _ _ (hn _) ⟨g, r.put (.pv .bool) hd⟩
theorem yos (hty : TyOk P ty) {t e : TypeId} {ti : TyI} {x : Operand} {yt : TypeId} (hg : o.guard = none) (ho : o.op = .binOp .eql t x (.const (.slice none 0 0)) yt) (hti : ty t = some ti) (hk : ti.kind = .slice e)
  (hx : ev s x = .pv (.slice [])) (hd : yJ N o.dst = true) (k : ∀ b, AOpsL P σ0 N ops os K (s.put o.dst (.pv (.bool b)))) : AOpsL P σ0 N ops (o :: os) K s :=
 YC hg (ymF hty ho hti hk hx hd k)
end
end Go.Aw

namespace Go.Aw
open Go
section
variable {ρ : Option Nat} {P : Program} {σ0 : Store} {N : Nat} {s : St} {ops : Array Oper} {Q : Exit → St → Prop} {c c2 : Code}
theorem AOpsL.mono {os : List Oper} {K K' : St → Prop} (h : AOpsL P σ0 N ops os K s) (k : ∀ s', K s' → K' s') : AOpsL P σ0 N ops os K' s :=
 fun l hl g0 w0 a w nx r n => h l hl g0 w0 a w nx r fun s' a' w' q r' => n s' a' w' (k s' q) r'
theorem yjH {id : Nat} (no nt nl : Nat) (s2 : St) (h : AOpsL P σ0 N ops ops.toList (fun s' => Weak σ0 no nt nl s' s2) s) (k : AWpR ρ P σ0 N c2 Q s2) : AWpR ρ P σ0 N (.seq (.region id ops false) c2) Q s :=
 ya (yS (h.mono fun s' hw => yiv no nt nl hw k))
end
end Go.Aw

namespace Go.Aw
open Go
theorem ym6 {B : Nat} {S : Nat → Nat → Prop} {w : World} {n : Nat} {p : PV} {v : Value} (hn : n < B) (hc : w.cell? ⟨n, 0, none⟩ = some v) (h1 : v.oneCell' = true) (hp : RP B S w p v) : RP B S w (.ptr [p]) (.pointer (some ⟨n, 0, none⟩)) := by
 refine RP.ptr (vs := [v]) rfl (fun i u hu => ?_) (fun i x u hx hu => ?_)
 ·match i with
  | 0 => simp at hu; subst hu; exact ⟨.inl hn, by simpa using hc, h1⟩
  | i + 1 => simp at hu
 ·match i with
  | 0 => simp at hx hu; subst hx hu; exact hp
  | i + 1 => simp at hx
theorem ykG {w : World} {n i : Nat} {v : Value} (h : w.cell? ⟨n, i, none⟩ = some v) : n < w.heap.size := by
 unfold World.cell? at h
 by_cases hlt : n < w.heap.size
 ·exact hlt
 ·rw [Array.getElem?_eq_none (by show w.heap.size ≤ n; omega)] at h; simp at h
theorem yot {v : Value} {k n : Int} {t : ByteArray} {u : Value} (h : v.cells.toList = [.int .i64 k, .int .i64 n, .string t, u]) : v = .agg #[.int .i64 k, .int .i64 n, .string t, u] := by
 cases v with
 | agg cs => simp only [Value.cells] at h; rw [← Array.toArray_toList (xs := cs), h]
 | _ => simp [Value.cells] at h
theorem yoA {B : Nat} {S : Nat → Nat → Prop} {w : World} {d : D} {u : Value} (h1 : u.oneCell' = true) (h : RP B S w (.slice (d.kids.map enc)) u) : RP B S w (enc d) (.agg #[.int .i64 d.kind, .int .i64 d.num, .string d.text, u]) := by
 rw [yaM]
 refine RP.agg (vs := [.int .i64 d.kind, .int .i64 d.num, .string d.text, u]) rfl (fun v hv => ?_) (fun i x v hx hv => ?_)
 ·simp only [List.mem_cons, List.not_mem_nil, or_false] at hv
  rcases hv with rfl | rfl | rfl | rfl <;> first | rfl | exact h1
 ·match i with
  | 0 => simp at hx hv; subst hx hv; exact .int
  | 1 => simp at hx hv; subst hx hv; exact .int
  | 2 => simp at hx hv; subst hx hv; exact .str
  | 3 => simp at hx hv; subst hx hv; exact h
  | i + 4 => simp at hx
end Go.Aw

namespace Go.Aw
open Go Go.ChangeShapes Go.WideShapes Go.ChangeAt Go.WideMaps Go.WideElems Go.RowKit
theorem yho {α β : Type} {f : α → β} : ∀ {l : List α}, (l.map f).Nodup → ∀ {a b : α}, a ∈ l → b ∈ l → f a = f b → a = b
 | [], _, a, b, ha, _, _ => by simp at ha
 | c :: l, h, a, b, ha, hb, e => by
  rw [List.map_cons, List.nodup_cons] at h
  rcases List.mem_cons.1 ha with rfl | ha1
  ·rcases List.mem_cons.1 hb with rfl | hb1
   ·rfl
   ·exact (h.1 (List.mem_map.2 ⟨b, hb1, e.symm⟩)).elim
  ·rcases List.mem_cons.1 hb with rfl | hb1
   ·exact (h.1 (List.mem_map.2 ⟨a, ha1, e⟩)).elim
   ·exact yho h.2 ha1 hb1 e
theorem ymM {β : Type} {l1 l2 : List (ByteArray × β)} (h : l1.Perm l2) (hn : (l2.map (·.1)).Nodup) (x : ByteArray) : (l1.find? fun p => decide (p.1 = x)) = l2.find? fun p => decide (p.1 = x) := by
 cases h2 : l2.find? fun p => decide (p.1 = x) with
 | none =>
  rw [List.find?_eq_none] at h2 ⊢
  exact fun p hp => h2 p (h.mem_iff.1 hp)
 | some y =>
  have hy := List.find?_some h2
  have hym := List.mem_of_find?_eq_some h2
  cases h1 : l1.find? fun p => decide (p.1 = x) with
  | none =>
   rw [List.find?_eq_none] at h1
   exact absurd hy (h1 y (h.mem_iff.2 hym))
  | some z =>
   have hz := List.find?_some h1
   have hzm := h.mem_iff.1 (List.mem_of_find?_eq_some h1)
   simp only [decide_eq_true_eq] at hy hz
   rw [yho hn hzm hym (hz.trans hy.symm)]
end Go.Aw

namespace Go.Aw
open Go Go.ChangeShapes Go.WideShapes Go.ChangeAt Go.WideMaps Go.WideElems Go.RowKit
def ycd : List (List UInt8 × Int) := ybt.map fun p => (p.1.data.toList, p.2)
def wdB (p : List UInt8 × Int) : ByteArray × Int := (⟨p.1.toArray⟩, p.2)
theorem yeW : ycd.map wdB = ybt := by
 unfold ycd
 rw [List.map_map]
 conv => rhs; rw [← List.map_id ybt]
 refine List.map_congr_left fun p _ => ?_
 simp [wdB]
theorem yjU : (ybt.map (·.1)).Nodup := by decide +kernel
def wdO (l : List (List UInt8 × Int)) (h : l.Perm ycd) : WdO where
 l := l.map wdB
 find := fun x => by
  rw [ymM (h.map wdB) (by rw [yeW]; exact yjU), yeW]
  rfl
def yeo {H : Type} : DataW H → Int
 | .lit (.int _ a) => a
 | _ => 0
def ybx {H : Type} (p : List UInt8 × Int) : Lit × DataW H := (.string p.1, .lit (.int .i64 p.2))
section
variable {H : Type} {enc' : TypeId × Value → H} {P : Program} {w : World} {base : Nat} {sp : Nat → Bool} {held : Bool} {S : Nat → Nat → Prop} {t k e : TypeId} {fuel : Nat} {cs : List Value} {ps : List MemPlace}
theorem ykT (ht : P.underlying t = some (.map k e)) (hks : P.underlying k = some .string) (he : P.underlying e = some (.int .i64)) {names : List (List UInt8 × Int)}
  (h : DataW.trod enc' P w base sp held fuel t cs = some (.map (names.map ybx), ps)) (hp : names.Perm ycd) :
  ∃ (b : Nat) (s : WdO), cs = [.map (some b)] ∧ RP w.heap.size S w (.map (wdK s) (wdV s)) (.map (some b)) := by
 rcases WideElems.open_map ht h with ⟨_, hx⟩ | ⟨b, es, clock, n, rfl, rfl, hb, _, F, hx⟩
 ·cases hx
 simp only [Prod.mk.injEq, DataW.map.injEq] at hx
 have hperm := YN (es.toList.map (rg P k (elemAt enc' P w base sp held n e)))
 rw [← hx.1] at hperm
 have hl : ((es.toList.map (rg P k (elemAt enc' P w base sp held n e))).map fun y => (ycj y.1, yeo y.2)).Perm ycd := by
  have h2 := (hperm.map fun y : Lit × DataW H => (ycj y.1, yeo y.2)).symm
  have e1 : ((names.map (ybx (H := H))).map fun y : Lit × DataW H => (ycj y.1, yeo y.2)) = names := by
   rw [List.map_map]
   conv => rhs; rw [← List.map_id names]
   refine List.map_congr_left fun p _ => ?_
   simp [ybx, ycj, yeo]
  rw [e1] at h2
  exact h2.trans hp
 refine ⟨b, wdO _ hl, rfl, ?_⟩
 have hent : ∀ x, x ∈ es.toList → ∃ (s : ByteArray) (c : Int), x.key = .string s ∧ x.val = .int .i64 c ∧ wdB (ycj (rg P k (elemAt enc' P w base sp held n e) x).1, yeo (rg P k (elemAt enc' P w base sp held n e) x).2) = (s, c) := by
  intro x hxm
  obtain ⟨y, hy⟩ := F.reads x hxm
  have hrg : rg P k (elemAt enc' P w base sp held n e) x = y := rg_of hy
  have hmem : y ∈ names.map (ybx (H := H)) := by
   have : y ∈ es.toList.map (rg P k (elemAt enc' P w base sp held n e)) := List.mem_map.2 ⟨x, hxm, hrg⟩
   exact hperm.mem_iff.2 this
  obtain ⟨s, _, hs⟩ := List.mem_map.1 hmem
  subst hs
  have hkey := rd_key hy
  obtain ⟨z, hz, hz2⟩ := rd_val hy
  rw [keyOf_string hks] at hkey
  have hk2 : ∃ s' : ByteArray, x.key = .string s' ∧ s'.data.toList = s.1 := by
   unfold mapKey at hkey
   rw [hks] at hkey
   split at hkey <;> simp_all [ybx]
  obtain ⟨s', h1, h2⟩ := hk2
  unfold elemAt at hz
  split at hz
  ·rename_i hfm
   obtain ⟨c, hcs, hz3, _⟩ := DataW.trod_int he hz
   rw [hz3] at hz2
   simp only [ybx, DataW.lit.injEq, Lit.int.injEq, true_and] at hz2
   refine ⟨s', s.2, h1, ?_, ?_⟩
   ·cases hv : x.val with
    | agg cs => rw [hv] at hfm; simp [Value.formed, he] at hfm
    | tuple cs => rw [hv] at hfm; simp [Value.formed] at hfm
    | _ => rw [hv] at hcs; simp [Value.cells] at hcs <;> first | (rw [hcs.1, hcs.2]; rw [hz2]) | (rw [hcs, hz2]) | simp [hcs, hz2]
   ·rw [hrg]
    simp [ybx, ycj, yeo, wdB, ← h2]
  ·cases hz
 have hblt : b < w.heap.size := by
  by_cases hlt : b < w.heap.size
  ·exact hlt
  ·rw [Array.getElem?_eq_none (by omega)] at hb; cases hb
 refine RP.map (es := es.toList) (clock := clock) hblt (by rw [hb]) (by simp [wdK, wdO]) (by simp [wdV, wdO]) (fun i x en hx hen => ?_) (fun i x en hx hen => ?_)
 ·obtain ⟨s, c, h1, _, h3⟩ := hent en (List.mem_of_getElem? hen)
  simp only [wdK, wdO, List.map_map, List.getElem?_map, hen, Option.map_some, Option.some.injEq] at hx
  subst hx
  simp only [Function.comp]
  rw [h3, h1]; exact .str
 ·obtain ⟨s, c, _, h2, h3⟩ := hent en (List.mem_of_getElem? hen)
  simp only [wdV, wdO, List.map_map, List.getElem?_map, hen, Option.map_some, Option.some.injEq] at hx
  subst hx
  simp only [Function.comp]
  rw [h3, h2]; exact .int
end
end Go.Aw

namespace Go.Aw
open Go Go.ChangeShapes Go.WideShapes Go.ChangeAt Go.WideMaps Go.WideElems Go.RowKit
section
variable {H : Type} {enc' : TypeId × Value → H} {P : Program} {w : World} {base : Nat} {spare : Nat → Bool} {held : Bool} {tD tK ti tn ts : TypeId} {S : Nat → Nat → Prop}
theorem yjr {r : Reach} {b0 : Nat} {t e : TypeId} {v u : Value} (ht : P.underlying t = some (.slice e)) (hok : Value.okWide P w r b0 t v) (h : v.cells.toList = [u]) : v = u := by
 obtain ⟨a, len, cap, rfl⟩ := okWide_slice ht hok
 simpa [Value.cells] using h
end
end Go.Aw

namespace Go.Aw
open Go
theorem yr6 {n : Int} (h : (Lit.int .i64 n).wf = true) : -9223372036854775808 ≤ n ∧ n ≤ 9223372036854775807 := by
 simp only [Lit.wf, Bool.and_eq_true, decide_eq_true_eq] at h
 exact h
end Go.Aw
