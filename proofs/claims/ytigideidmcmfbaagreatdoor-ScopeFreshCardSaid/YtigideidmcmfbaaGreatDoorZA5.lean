/- Part of the proof that the statement holds for every input that its row lets in: an own logic of abstract values over the given model, and laws of data and programs; no program is named in it. -/
import Derived.Test.YtigideidmcmfbaaGreatDoorZA4
import Derived.Test.YtigideidmcmfbaaGreatDoorZA3
import Derived.LaidLaws
set_option linter.unusedSimpArgs false
set_option linter.unusedVariables false
namespace Go.Aw
open Go
section
variable {β : Type} {S : Type} (eb : β → PV)
variable (nam : D → List Int → List ByteArray → Int → S → List β × S) (vari : D → List Int → List (ByteArray × β) → S → S)
/-- The walk: what is bound at names, what is done at variables, in preorder. -/
def fk : D → List Int → List (ByteArray × β) → S → S :=
 scata (fun d rs p sc s =>
  if (synKind d == 2) = true then vari d p sc s
  else if (synKind d == 5 || synKind d == 9) = true then
   match rs with
   | [q] => let r := nam d p (ownS d) 0 s; q.2 (p ++ q.1.p) (wthSc sc (ownS d) r.1) r.2
   | _ => s
  else if (synKind d == 6) = true then
   match rs with
   | [q, q'] => let r := nam d p (ownS d) 0 s; q'.2 (p ++ q'.1.p) (wthSc sc (ownS d) r.1) (q.2 (p ++ q.1.p) sc r.2)
   | _ => s
  else if (synKind d == 7) = true then
   let r := nam d p (ownS d) 0 s
   let inn := wthSc sc (ownS d) r.1
   let s' := ((d1 d.kids).kids.zip rs).zipIdx.foldl (fun s q =>
    let r2 := nam d p (parS q.1.1) (fromS (d1 d.kids).kids q.2) s
    q.1.2.2 (p ++ q.1.2.1.p) (wthSc inn (parS q.1.1) r2.1) r2.2) r.2
   match rs.getLast? with
   | some q => q.2 (p ++ q.1.p) inn s'
   | none => s'
  else rs.foldl (fun s q => q.2 (p ++ q.1.p) sc s) s)
theorem fk_eq (d : D) (p : List Int) (sc : List (ByteArray × β)) (s : S) : fk nam vari d p sc s =
  if (synKind d == 2) = true then vari d p sc s
  else if (synKind d == 5 || synKind d == 9) = true then
   match (subs d).map fun q => (q.1, fk nam vari q.2) with
   | [q] => let r := nam d p (ownS d) 0 s; q.2 (p ++ q.1.p) (wthSc sc (ownS d) r.1) r.2
   | _ => s
  else if (synKind d == 6) = true then
   match (subs d).map fun q => (q.1, fk nam vari q.2) with
   | [q, q'] => let r := nam d p (ownS d) 0 s; q'.2 (p ++ q'.1.p) (wthSc sc (ownS d) r.1) (q.2 (p ++ q.1.p) sc r.2)
   | _ => s
  else if (synKind d == 7) = true then
   let r := nam d p (ownS d) 0 s
   let inn := wthSc sc (ownS d) r.1
   let s' := ((d1 d.kids).kids.zip ((subs d).map fun q => (q.1, fk nam vari q.2))).zipIdx.foldl (fun s q =>
    let r2 := nam d p (parS q.1.1) (fromS (d1 d.kids).kids q.2) s
    q.1.2.2 (p ++ q.1.2.1.p) (wthSc inn (parS q.1.1) r2.1) r2.2) r.2
   match ((subs d).map fun q => (q.1, fk nam vari q.2)).getLast? with
   | some q => q.2 (p ++ q.1.p) inn s'
   | none => s'
  else ((subs d).map fun q => (q.1, fk nam vari q.2)).foldl (fun s q => q.2 (p ++ q.1.p) sc s) s := by
 show scata (β := List Int → List (ByteArray × β) → S → S) _ d p sc s = _
 rw [scata_eq]; rfl
theorem fk_name {d : D} {p : List Int} {sc : List (ByteArray × β)} {s : S} (h : synKind d = 2) : fk nam vari d p sc s = vari d p sc s := by
 rw [fk_eq, if_pos (by simpa using h)]
theorem fk_fn {d : D} {p : List Int} {sc : List (ByteArray × β)} {s : S} (h : synKind d = 5 ∨ synKind d = 9) :
  fk nam vari d p sc s = fk nam vari (d2 d.kids) (p ++ [2]) (wthSc sc (ownS d) (nam d p (ownS d) 0 s).1) (nam d p (ownS d) 0 s).2 := by
 rw [fk_eq, if_neg (by simp; omega), if_pos (by simpa using h), subs_of_fn h]; rfl
theorem fk_let {d : D} {p : List Int} {sc : List (ByteArray × β)} {s : S} (h : synKind d = 6) :
  fk nam vari d p sc s = fk nam vari (d.kids.getD 3 dnone) (p ++ [3]) (wthSc sc (ownS d) (nam d p (ownS d) 0 s).1) (fk nam vari (d2 d.kids) (p ++ [2]) sc (nam d p (ownS d) 0 s).2) := by
 rw [fk_eq, if_neg (by simp; omega), if_neg (by simp; omega), if_pos (by simpa using h), subs_of_let h]; rfl
/-- What the first definitions of a rec leave. -/
def fkd (d : D) (p : List Int) (inn : List (ByteArray × β)) (k : Nat) (s : S) : S :=
 ((d1 d.kids).kids.take k).zipIdx.foldl (fun s q =>
  let r := nam d p (parS q.1) (fromS (d1 d.kids).kids q.2) s
  fk nam vari (d2 q.1.kids) (p ++ [1, (q.2 : Int), 2]) (wthSc inn (parS q.1) r.1) r.2) s
theorem fkd_next {d : D} {p : List Int} {inn : List (ByteArray × β)} {k : Nat} {s : S} {x : D} (h : (d1 d.kids).kids[k]? = some x) :
  fkd nam vari d p inn (k + 1) s = fk nam vari (d2 x.kids) (p ++ [1, (k : Int), 2]) (wthSc inn (parS x) (nam d p (parS x) (fromS (d1 d.kids).kids k) (fkd nam vari d p inn k s)).1) (nam d p (parS x) (fromS (d1 d.kids).kids k) (fkd nam vari d p inn k s)).2 := by
 have hk := (List.getElem?_eq_some_iff.1 h).1
 unfold fkd
 rw [take_next h, List.zipIdx_append, List.foldl_append]
 have e : ([x] : List D).zipIdx (0 + ((d1 d.kids).kids.take k).length) = [(x, k)] := by simp; omega
 rw [e]; rfl
theorem fk_rec {d : D} {p : List Int} {sc : List (ByteArray × β)} {s : S} (h : synKind d = 7) :
  fk nam vari d p sc s = fk nam vari (d2 d.kids) (p ++ [2]) (wthSc sc (ownS d) (nam d p (ownS d) 0 s).1) (fkd nam vari d p (wthSc sc (ownS d) (nam d p (ownS d) 0 s).1) (d1 d.kids).kids.length (nam d p (ownS d) 0 s).2) := by
 rw [fk_eq, if_neg (by simp; omega), if_neg (by simp; omega), if_neg (by simp; omega), if_pos (by simpa using h), subs_of_rec h]
 simp only [List.map_append, List.map_cons, List.map_nil, List.getLast?_append, List.getLast?_singleton, Option.or_some, Option.some_or, mapI_zipIdx, List.map_map]
 rw [show ((fun (q : Sub × D) => (q.1, fk nam vari q.2)) ∘ fun (q : D × Nat) => subR d q.2 q.1) = fun q => ((fun (x : D) (i : Nat) => ((subR d i x).1, fk nam vari (subR d i x).2)) q.1 q.2) from rfl]
 rw [zip_zipIdx (fun (x : D) (i : Nat) => ((subR d i x).1, fk nam vari (subR d i x).2)), zipIdx_map2, List.foldl_map]
 unfold fkd
 rw [List.take_length]; rfl
/-- What the first parts leave, where nothing is bound. -/
def fks (d : D) (p : List Int) (sc : List (ByteArray × β)) (k : Nat) (s : S) : S := ((subs d).take k).foldl (fun s q => fk nam vari q.2 (p ++ q.1.p) sc s) s
theorem fks_next {d : D} {p : List Int} {sc : List (ByteArray × β)} {k : Nat} {s : S} {q : Sub × D} (h : (subs d)[k]? = some q) : fks nam vari d p sc (k + 1) s = fk nam vari q.2 (p ++ q.1.p) sc (fks nam vari d p sc k s) := by
 unfold fks
 rw [take_next h, List.foldl_append]; rfl
theorem fks_all {d : D} {p : List Int} {sc : List (ByteArray × β)} {s : S} (h : synKind d ≠ 2 ∧ synKind d ≠ 5 ∧ synKind d ≠ 9 ∧ synKind d ≠ 6 ∧ synKind d ≠ 7) : fks nam vari d p sc (subs d).length s = fk nam vari d p sc s := by
 rw [fk_eq, if_neg (by simp; omega), if_neg (by simp; omega), if_neg (by simp; omega), if_neg (by simp; omega), List.foldl_map]
 unfold fks
 rw [List.take_length]
end
/-- The bindings of an expression's names, as text. -/
def kyS (p : List Int) (ns : List ByteArray) (n : Int) : List ByteArray := (List.range ns.length).map fun (i : Nat) => bkS p (n + (i : Int))
theorem kyS_len (p : List Int) (ns : List ByteArray) (n : Int) : (kyS p ns n).length = ns.length := by simp [kyS]
theorem kyS_take (p : List Int) (ns : List ByteArray) (n : Int) {k : Nat} (h : k < ns.length) : (kyS p ns n).take (k + 1) = (kyS p ns n).take k ++ [bkS p (n + (k : Int))] := by
 apply take_next
 simp [kyS, h]
abbrev FSt := List (List Int) × List ByteArray
def fndN (_d : D) (p : List Int) (ns : List ByteArray) (n : Int) (s : FSt) : List ByteArray × FSt := (kyS p ns n, s)
def fndV (x : ByteArray) (d : D) (p : List Int) (sc : List (ByteArray × ByteArray)) (s : FSt) : FSt :=
 if (decide (d.text = x) && !(lookSc sc x).isSome) = true then (s.1 ++ [p], (sc.map (·.2)).foldl addS s.2) else s
/-- The places at which a name is free, and the bindings around them. -/
def fnd (x : ByteArray) : D → List Int → List (ByteArray × ByteArray) → FSt → FSt := fk fndN (fndV x)
theorem fnd_mono (x : ByteArray) : ∀ (d : D) (p : List Int) (sc : List (ByteArray × ByteArray)) (s : FSt), s.1.length ≤ (fnd x d p sc s).1.length := by
 intro d
 unfold fnd
 induction d using D.indS with
 | h d ih =>
  intro p sc s
  by_cases h2 : synKind d = 2
  ·rw [fk_name _ _ h2]; unfold fndV; split
   ·simp
   ·exact Nat.le_refl _
  by_cases h5 : synKind d = 5 ∨ synKind d = 9
  ·rw [fk_fn _ _ h5]
   have hq : subL d 2 (d2 d.kids) ∈ subs d := by rw [subs_of_fn h5]; simp
   exact ih _ hq _ _ s
  by_cases h6 : synKind d = 6
  ·rw [fk_let _ _ h6]
   have hq : (⟨[2], []⟩, d2 d.kids) ∈ subs d := by rw [subs_of_let h6]; simp
   have hq3 : subL d 3 (d.kids.getD 3 dnone) ∈ subs d := by rw [subs_of_let h6]; simp
   exact Nat.le_trans (ih _ hq (p ++ [2]) sc s) (ih _ hq3 _ _ _)
  by_cases h7 : synKind d = 7
  ·rw [fk_rec _ _ h7]
   have hq : subL d 2 (d2 d.kids) ∈ subs d := by rw [subs_of_rec h7]; simp
   refine Nat.le_trans ?_ (ih _ hq _ _ _)
   have key : ∀ (inn : List (ByteArray × ByteArray)) (k : Nat), k ≤ (d1 d.kids).kids.length → s.1.length ≤ (fkd fndN (fndV x) d p inn k s).1.length := by
    intro inn k
    induction k with
    | zero => intro _; exact Nat.le_refl _
    | succ k ihk =>
     intro hk
     have hx : (d1 d.kids).kids[k]? = some ((d1 d.kids).kids[k]'(by omega)) := by simp
     rw [fkd_next _ _ hx]
     have hm : subR d k ((d1 d.kids).kids[k]'(by omega)) ∈ subs d := by rw [subs_of_rec h7]; exact List.mem_append_left _ (List.mem_of_getElem? (by rw [mapI_get, hx]; rfl))
     exact Nat.le_trans (ihk (by omega)) (ih _ hm _ _ _)
   exact key _ _ (Nat.le_refl _)
  ·have hr : synKind d ≠ 2 ∧ synKind d ≠ 5 ∧ synKind d ≠ 9 ∧ synKind d ≠ 6 ∧ synKind d ≠ 7 := by omega
   rw [← fks_all fndN (fndV x) hr]
   have key : ∀ k, k ≤ (subs d).length → s.1.length ≤ (fks fndN (fndV x) d p sc k s).1.length := by
    intro k
    induction k with
    | zero => intro _; exact Nat.le_refl _
    | succ k ihk =>
     intro hk
     have hx : (subs d)[k]? = some ((subs d)[k]'(by omega)) := by simp
     rw [fks_next _ _ hx]
     exact Nat.le_trans (ihk (by omega)) (ih _ (List.mem_of_getElem? hx) _ _ _)
   exact key _ (Nat.le_refl _)
theorem fkd_mono (x : ByteArray) (d : D) (p : List Int) (inn : List (ByteArray × ByteArray)) (s : FSt) {j : Nat} : ∀ {k : Nat}, j ≤ k → k ≤ (d1 d.kids).kids.length → (fkd fndN (fndV x) d p inn j s).1.length ≤ (fkd fndN (fndV x) d p inn k s).1.length := by
 intro k hjk
 induction hjk with
 | refl => intro _; exact Nat.le_refl _
 | @step k hjk ih =>
  intro hk
  have hk : k + 1 ≤ (d1 d.kids).kids.length := hk
  have hx : (d1 d.kids).kids[k]? = some ((d1 d.kids).kids[k]'(by omega)) := by simp
  rw [fkd_next _ _ hx]
  exact Nat.le_trans (ih (by omega)) (fnd_mono x _ _ _ _)
theorem fks_mono (x : ByteArray) (d : D) (p : List Int) (sc : List (ByteArray × ByteArray)) (s : FSt) {j : Nat} : ∀ {k : Nat}, j ≤ k → k ≤ (subs d).length → (fks fndN (fndV x) d p sc j s).1.length ≤ (fks fndN (fndV x) d p sc k s).1.length := by
 intro k hjk
 induction hjk with
 | refl => intro _; exact Nat.le_refl _
 | @step k hjk ih =>
  intro hk
  have hk : k + 1 ≤ (subs d).length := hk
  have hx : (subs d)[k]? = some ((subs d)[k]'(by omega)) := by simp
  rw [fks_next _ _ hx]
  exact Nat.le_trans (ih (by omega)) (fnd_mono x _ _ _ _)
theorem subs_pth {d : D} (hd : d.size ≤ 100000000) {q : Sub × D} (h : q ∈ subs d) : ∀ j, j ∈ q.1.p → 0 ≤ j ∧ j ≤ 1000000000 := sub_pth hd (D.sub_subs h)
/-! ### where the places and the bindings are kept -/
def foU (opl om tk : Nat) (s : FSt) : List (Nat × AObj) := [(opl, .box [.acc (s.1.map wPV) tk]), (om, .map (tK s.2) (tV s.2))]
def foS (opl om tk : Nat) (Y : Store) (s : FSt) : Store := ⟨Y.gl, setAll Y.objs (foU opl om tk s), Y.toks.modify tk fun t => { t with n := s.1.length }⟩
def FHas (T : TypeId) (opl om tk : Nat) (Y : Store) (s : FSt) : Prop := HasU Y (foU opl om tk s) ∧ Y.toks[tk]? = some ⟨s.1.length, T, 1⟩
def foX (x : ByteArray) (ox opl oar om ov : Nat) (vf : FuncId) : List (Nat × AObj) := [(ox, .box [.pv (.str x)]), (oar, .box [.map om]), (ov, .box [.func (.func vf) [.ptr ox 0, .ptr opl 0, .ptr oar 0, .ptr ov 0]])]
structure FnH (x : ByteArray) (ox opl oar om ov : Nat) (vf : FuncId) : Prop where
 hne : opl ≠ om
 hX : ∀ q, q ∈ foX x ox opl oar om ov vf → q.1 ∉ [opl, om]
section
variable {T : TypeId} {x : ByteArray} {ox opl oar om ov tk : Nat} {vf : FuncId} {Y : Store} {s s2 : FSt}
theorem foU_keys : (foU opl om tk s).map (·.1) = [opl, om] := rfl
theorem FHas.lt (h : FHas T opl om tk Y s) {i : Nat} (hi : i ∈ [opl, om]) : i < Y.objs.length := by
 rw [← foU_keys (tk := tk) (s := s)] at hi
 obtain ⟨q, hq, rfl⟩ := List.mem_map.1 hi
 exact h.1.lt hq
theorem FHas.ltk (h : FHas T opl om tk Y s) : tk < Y.toks.length := (List.getElem?_eq_some_iff.1 h.2).1
theorem foS_gl : (foS opl om tk Y s).gl = Y.gl := rfl
theorem foS_objs : (foS opl om tk Y s).objs = (updS Y (foU opl om tk s)).objs := rfl
theorem foS_nt : (foS opl om tk Y s).toks.length = Y.toks.length := List.length_modify ..
theorem foS_ne {i : Nat} (h : i ∉ [opl, om]) : (foS opl om tk Y s).objs[i]? = Y.objs[i]? := setAll_out h
theorem modify_eq {α : Type} {l : List α} {k : Nat} {x : α} (f : α → α) (h : l[k]? = some x) : l.modify k f = l.set k (f x) := by
 apply List.ext_getElem?
 intro i
 rw [List.getElem?_modify, List.getElem?_set]
 have hl := (List.getElem?_eq_some_iff.1 h).1
 split
 ·subst_vars
  rw [h]; rfl
 ·cases l[i]? <;> rfl
theorem foS_toks {n : Nat} (h : Y.toks[tk]? = some ⟨n, T, 1⟩) : (foS opl om tk Y s).toks = Y.toks.set tk ⟨s.1.length, T, 1⟩ := modify_eq _ h
theorem foS_eq {n : Nat} (h : Y.toks[tk]? = some ⟨n, T, 1⟩) : foS opl om tk Y s = ⟨Y.gl, setAll Y.objs (foU opl om tk s), Y.toks.set tk ⟨s.1.length, T, 1⟩⟩ := by
 show (⟨Y.gl, setAll Y.objs (foU opl om tk s), (foS opl om tk Y s).toks⟩ : Store) = _
 rw [foS_toks h]
theorem FHas.self (h : FHas T opl om tk Y s) : foS opl om tk Y s = Y := by
 rw [foS_eq h.2, setAll_self h.1]
 have : Y.toks.set tk ⟨s.1.length, T, 1⟩ = Y.toks := by
  apply List.ext_getElem?
  intro i
  rw [List.getElem?_set]
  split
  ·subst_vars
   split
   ·exact h.2.symm
   ·rename_i hlt; exact absurd h.ltk hlt
  ·rfl
 rw [this]
theorem FHas.upd (hne : opl ≠ om) (h : FHas T opl om tk Y s) : FHas T opl om tk (foS opl om tk Y s2) s2 := by
 refine ⟨?_, ?_⟩
 ·intro q hq
  rw [foS_objs]
  exact updS_has (by rw [foU_keys]; simp [hne]) (fun q hq => h.lt (by rw [← foU_keys (tk := tk) (s := s2)]; exact List.mem_map.2 ⟨q, hq, rfl⟩)) q hq
 ·rw [foS_toks h.2, List.getElem?_set_self h.ltk]
theorem FHas.app (h : FHas T opl om tk Y s) (B : List AObj) : FHas T opl om tk ⟨Y.gl, Y.objs ++ B, Y.toks⟩ s := ⟨h.1.app B _, h.2⟩
theorem foS_twice (hne : opl ≠ om) {n : Nat} (h : Y.toks[tk]? = some ⟨n, T, 1⟩) : foS opl om tk (foS opl om tk Y s) s2 = foS opl om tk Y s2 := by
 have hl := (List.getElem?_eq_some_iff.1 h).1
 have h2 : (foS opl om tk Y s).toks[tk]? = some ⟨s.1.length, T, 1⟩ := by rw [foS_toks h, List.getElem?_set_self hl]
 rw [foS_eq h2, foS_eq h]
 simp only
 rw [foS_eq h]
 rw [setAll_setAll (by rw [foU_keys]; simp [hne]) (by rw [foU_keys, foU_keys]; exact fun _ h => h), List.set_set]
theorem FHas.cut (h : FHas T opl om tk Y s) (B : List AObj) {no nt : Nat} (hno : no = Y.objs.length) (hnt : nt = Y.toks.length) : (foS opl om tk ⟨Y.gl, Y.objs ++ B, Y.toks⟩ s2).cut no nt = foS opl om tk Y s2 := by
 subst hno; subst hnt
 have hk : (⟨Y.gl, Y.objs ++ B, Y.toks⟩ : Store).toks[tk]? = some ⟨s.1.length, T, 1⟩ := h.2
 rw [foS_eq hk, foS_eq h.2]
 have hlt : ∀ q, q ∈ foU opl om tk s2 → q.1 < Y.objs.length := fun q hq => h.lt (by rw [← foU_keys (tk := tk) (s := s2)]; exact List.mem_map.2 ⟨q, hq, rfl⟩)
 rw [setAll_app hlt]
 unfold Store.cut
 simp only
 rw [List.take_left' (setAll_length _ _), List.take_of_length_le (by simp)]
theorem foX_has (H : FnH x ox opl oar om ov vf) (h : HasU Y (foX x ox opl oar om ov vf)) : HasU (foS opl om tk Y s) (foX x ox opl oar om ov vf) := fun q hq => by
 rw [foS_ne (H.hX q hq)]; exact h q hq
/-- A round's end: the record is as it was. -/
theorem foS_rec {r : Nat} {a b : AObj} (h : r ∉ [opl, om]) (ha : Y.objs[r]? = some a) : { foS opl om tk { Y with objs := Y.objs.set r b } s with objs := ((foS opl om tk { Y with objs := Y.objs.set r b } s).objs).set r a } = foS opl om tk Y s := by
 have h1 := updS_rec (X := Y) (V := foU opl om tk s) (b := b) h ha
 have h2 := congrArg Store.objs h1
 simp only at h2
 have h3 : (foS opl om tk { Y with objs := Y.objs.set r b } s).toks = (foS opl om tk Y s).toks := rfl
 show (⟨(foS opl om tk { Y with objs := Y.objs.set r b } s).gl, ((foS opl om tk { Y with objs := Y.objs.set r b } s).objs).set r a, (foS opl om tk { Y with objs := Y.objs.set r b } s).toks⟩ : Store) = ⟨(foS opl om tk Y s).gl, (foS opl om tk Y s).objs, (foS opl om tk Y s).toks⟩
 rw [h3, foS_gl, foS_gl, foS_objs, foS_objs, h2]
theorem FHas.set (h : FHas T opl om tk Y s) {i : Nat} {ob : AObj} (hi : i ∉ [opl, om]) : FHas T opl om tk { Y with objs := Y.objs.set i ob } s := ⟨hasU_set h.1 hi, h.2⟩
/-- What lies behind is let go. -/
theorem fAt_of {P : Program} {f : FuncId} {args : List AV} {r0 : AV} (hh : FHas T opl om tk Y s) (hrn : WVt Y.objs.length Y.toks.length 0 r0 r0)
  (h : ACalls P f args Y fun r σ' => r = r0 ∧ σ'.cut Y.objs.length Y.toks.length = foS opl om tk Y s2) : ACalls P f args Y fun r σ' => r = r0 ∧ σ' = foS opl om tk Y s2 := by
 refine h.less fun r σ' ⟨h1, h2⟩ => ⟨_, _, r0, by subst h1; exact hrn, Nat.le_refl _, Nat.le_refl _, fun ob hob => ?_, rfl, h2⟩
 have : σ'.objs.take Y.objs.length = (foS opl om tk Y s2).objs := congrArg Store.objs h2
 rw [this, foS_objs] at hob
 rcases setAll_mem hob with h | ⟨q, hq, rfl⟩
 ·exact .inl h
 ·refine .inr ?_
  have h3 := hh.ltk
  simp only [foU, List.mem_cons, List.not_mem_nil, or_false] at hq
  rcases hq with rfl | rfl
  ·simp [AObj.clo, AV.clos, AV.clo, h3]
  ·rfl
end
section
variable {x : ByteArray} {d : D} {p : List Int} {sc : List (ByteArray × ByteArray)} {s : FSt}
def fndD (x : ByteArray) (d : D) (p : List Int) (inn : List (ByteArray × ByteArray)) (k : Nat) (s : FSt) : FSt := fkd fndN (fndV x) d p inn k s
def fndS (x : ByteArray) (d : D) (p : List Int) (sc : List (ByteArray × ByteArray)) (k : Nat) (s : FSt) : FSt := fks fndN (fndV x) d p sc k s
theorem fnd_name (h : synKind d = 2) : fnd x d p sc s = if (decide (d.text = x) && !(lookSc sc x).isSome) = true then (s.1 ++ [p], (sc.map (·.2)).foldl addS s.2) else s := fk_name _ _ h
theorem fnd_fn (h : synKind d = 5 ∨ synKind d = 9) : fnd x d p sc s = fnd x (d2 d.kids) (p ++ [2]) (wthSc sc (ownS d) (kyS p (ownS d) 0)) s := fk_fn _ _ h
theorem fnd_let (h : synKind d = 6) : fnd x d p sc s = fnd x (d.kids.getD 3 dnone) (p ++ [3]) (wthSc sc (ownS d) (kyS p (ownS d) 0)) (fnd x (d2 d.kids) (p ++ [2]) sc s) := fk_let _ _ h
theorem fnd_rec (h : synKind d = 7) : fnd x d p sc s = fnd x (d2 d.kids) (p ++ [2]) (wthSc sc (ownS d) (kyS p (ownS d) 0)) (fndD x d p (wthSc sc (ownS d) (kyS p (ownS d) 0)) (d1 d.kids).kids.length s) := fk_rec _ _ h
theorem fndD_next {inn : List (ByteArray × ByteArray)} {k : Nat} {y : D} (h : (d1 d.kids).kids[k]? = some y) : fndD x d p inn (k + 1) s = fnd x (d2 y.kids) (p ++ [1, (k : Int), 2]) (wthSc inn (parS y) (kyS p (parS y) (fromS (d1 d.kids).kids k))) (fndD x d p inn k s) := fkd_next _ _ h
theorem fndS_next {k : Nat} {q : Sub × D} (h : (subs d)[k]? = some q) : fndS x d p sc (k + 1) s = fnd x q.2 (p ++ q.1.p) sc (fndS x d p sc k s) := fks_next _ _ h
theorem fndS_all (h : synKind d ≠ 2 ∧ synKind d ≠ 5 ∧ synKind d ≠ 9 ∧ synKind d ≠ 6 ∧ synKind d ≠ 7) : fndS x d p sc (subs d).length s = fnd x d p sc s := fks_all _ _ h
theorem fndD_le {inn : List (ByteArray × ByteArray)} {j k : Nat} (h1 : j ≤ k) (h2 : k ≤ (d1 d.kids).kids.length) : (fndD x d p inn j s).1.length ≤ (fndD x d p inn k s).1.length := fkd_mono x d p inn s h1 h2
theorem fndS_le {j k : Nat} (h1 : j ≤ k) (h2 : k ≤ (subs d).length) : (fndS x d p sc j s).1.length ≤ (fndS x d p sc k s).1.length := fks_mono x d p sc s h1 h2
theorem foS_app {T : TypeId} {opl om tk : Nat} {Y : Store} {n : Nat} (hne : opl ≠ om) (h : Y.toks[tk]? = some ⟨n, T, 1⟩) (ho : opl < Y.objs.length) (l : List (List Int)) (R : List ByteArray) (hm : Y.objs[om]? = some (.map (tK R) (tV R))) :
  (⟨Y.gl, Y.objs.set opl (.box [.acc (l.map wPV) tk]), Y.toks.modify tk fun t => { t with n := l.length }⟩ : Store) = foS opl om tk Y (l, R) := by
 unfold foS foU
 simp only [setAll]
 have : (Y.objs.set opl (.box [.acc (l.map wPV) tk])).set om (.map (tK R) (tV R)) = Y.objs.set opl (.box [.acc (l.map wPV) tk]) := by
  apply List.ext_getElem?
  intro i
  rw [List.getElem?_set]
  split
  ·subst_vars
   have := (List.getElem?_eq_some_iff.1 hm).1
   simp only [List.length_set, this, if_true]
   rw [List.getElem?_set_ne hne, hm]
  ·rfl
 rw [this]
theorem foS_setS {opl om tk : Nat} {Y : Store} {l : List (List Int)} {R R2 : List ByteArray} : setS (foS opl om tk Y (l, R)) om R2 = foS opl om tk Y (l, R2) := by
 unfold foS foU setS
 simp only [setAll, List.set_set]
end
theorem pth_app {p q : List Int} (h1 : ∀ j, j ∈ p → 0 ≤ j ∧ j ≤ 1000000000) (h2 : ∀ j, j ∈ q → 0 ≤ j ∧ j ≤ 1000000000) : ∀ j, j ∈ p ++ q → 0 ≤ j ∧ j ≤ 1000000000 := fun j hj => (List.mem_append.1 hj).elim (h1 j) (h2 j)
theorem foS_set1 {opl om tk : Nat} {A : List AObj} {g : List (Nat × PV)} {tks : List Tok} {a b c : AObj} {s : FSt} (h : A.length + 1 ∉ [opl, om]) :
  (⟨g, (foS opl om tk ⟨g, A ++ [a, b], tks⟩ s).objs.set (A.length + 1) c, (foS opl om tk ⟨g, A ++ [a, b], tks⟩ s).toks⟩ : Store) = foS opl om tk ⟨g, A ++ [a, c], tks⟩ s := by
 have key : (setAll (A ++ [a, b]) (foU opl om tk s)).set (A.length + 1) c = setAll (A ++ [a, c]) (foU opl om tk s) := by
  simp only [List.mem_cons, List.not_mem_nil, or_false, not_or] at h
  unfold foU
  simp only [setAll]
  have h1 : opl ≠ A.length + 1 := fun e => h.1 e.symm
  have h2 : om ≠ A.length + 1 := fun e => h.2 e.symm
  rw [List.set_comm _ c h2, List.set_comm _ c h1]
  have e : (A ++ [a, b]).set (A.length + 1) c = A ++ [a, c] := by rw [List.set_append_right _ _ (by omega)]; simp
  rw [e]
 show (⟨g, (setAll (A ++ [a, b]) (foU opl om tk s)).set (A.length + 1) c, tks.modify tk fun t => { t with n := s.1.length }⟩ : Store) = _
 rw [key]; rfl
end Go.Aw

namespace Go.Aw
open Go
section
variable {ρ : Option Nat} {P : Program} {σ0 : Store} {N : Nat} {s : St}
theorem awp_adoptO {c : Code} {Q : Exit → St → Prop} (i : Nat) (e : TypeId) (sz : Nat) (hi : s.σ.objs[i]? = some (.box [.pv .nils]))
  (k : AWpR ρ P σ0 N c Q { s with σ := ⟨s.σ.gl, s.σ.objs.set i (.box [.acc [] s.σ.toks.length]), s.σ.toks ++ [⟨0, e, sz⟩]⟩ }) : AWpR ρ P σ0 N c Q s := by
 rintro g0 w0 a w ⟨g, r⟩
 obtain ⟨i1, le1⟩ := r.2.1.adopt ⟨0, e, sz⟩
 have r' := r.later (σ' := { s.σ with toks := s.σ.toks ++ [⟨0, e, sz⟩] }) (L' := s.L) le1 (fun _ _ h => h) i1 rfl rfl (fun _ _ => rfl) (Nat.le_refl _) rfl rfl rfl
 refine k g0 w0 a w ⟨_, r'.setTell (i := i) (ob := .box [.pv .nils]) (ob' := .box [.acc [] s.σ.toks.length]) hi fun b hb => ?_⟩
 obtain ⟨h1, vs, el, h2, h3, h4, h5⟩ := hb
 refine ⟨fun x hx => ?_, vs, el, h2, h3, h4, fun j x v hx hv => ?_⟩
 ·rw [List.mem_singleton] at hx; subst hx; rfl
 ·cases j with
  | succ j => simp at hx
  | zero =>
   simp at hx; subst hx
   have h6 := h5 0 (.pv .nils) v rfl hv
   cases h6 with
   | pv h6 =>
    have h7 := h6.nils_inv
    subst h7
    exact .acc .empty (t := ⟨0, e, sz⟩) (by simp) (Nat.zero_le _) (by simp) (fun _ => .inr ⟨none, rfl⟩)
end
/-- Objects and tokens up to a number are kept. -/
theorem ACalls.keepTo2 {P : Program} {f : FuncId} {args : List AV} {σ : Store} {r0 : AV} {Y : Store} (no nt : Nat) (h0 : σ.objs.length ≤ no) (h1 : σ.toks.length ≤ nt) (hc : ∀ ob, ob ∈ Y.objs → ob ∈ σ.objs ∨ ob.clo no nt 0 = true)
  (h : ACalls P f args σ fun r σ' => WVt no nt 0 r r0 ∧ σ'.cut no nt = Y) : ACalls P f args σ fun r σ' => r = r0 ∧ σ' = Y := by
 refine h.less fun r σ' ⟨h2, h3⟩ => ⟨_, _, r0, h2, h0, h1, fun ob hob => ?_, rfl, h3⟩
 have : σ'.objs.take no = Y.objs := congrArg Store.objs h3
 rw [this] at hob
 exact hc ob hob
theorem set_app1 {α : Type} {l : List α} {a b c y : α} : (l ++ [a, b, c]).set (l.length + 1) y = l ++ [a, y, c] := by
 rw [List.set_append_right _ _ (by omega)]; simp
theorem foS_new {T : TypeId} {A : List AObj} {g : List (Nat × PV)} {tks : List Tok} {a b c e : AObj} {s : FSt} :
  foS (A.length + 1) (A.length + 3) tks.length ⟨g, A ++ [a, b, c, .map [] [], e], tks ++ [⟨0, T, 1⟩]⟩ s = ⟨g, A ++ [a, .box [.acc (s.1.map wPV) tks.length], c, .map (tK s.2) (tV s.2), e], tks ++ [⟨s.1.length, T, 1⟩]⟩ := by
 unfold foS foU
 have e1 : ∀ x y : AObj, ((A ++ [a, b, c, .map [] [], e]).set (A.length + 1) x).set (A.length + 3) y = A ++ [a, x, c, y, e] := by
  intro x y
  rw [List.set_append_right _ _ (by omega), List.set_append_right _ _ (by omega)]; simp
 have e2 : ∀ f : Tok → Tok, (tks ++ [(⟨0, T, 1⟩ : Tok)]).modify tks.length f = tks ++ [f ⟨0, T, 1⟩] := by
  intro f
  rw [modify_eq f (x := (⟨0, T, 1⟩ : Tok)) (by simp)]; simp
 simp only [setAll, e1, e2]
end Go.Aw

namespace Go.Aw
open Go
def AD.graft : AD → List Int → AD → AD
 | _, [], u => u
 | .mk k n t o l, i :: p, u => match l[i.toNat]? with
  | some c => .mk k n t o (l.set i.toNat (AD.graft c p u))
  | none => .mk k n t o l
def D.graft : D → List Int → D → D
 | _, [], u => u
 | .mk k n t l, i :: p, u => match l[i.toNat]? with
  | some c => .mk k n t (l.set i.toNat (D.graft c p u))
  | none => .mk k n t l
theorem AD.graft_dat : ∀ (p : List Int) (t u : AD), (t.graft p u).dat = t.dat.graft p u.dat
 | [], t, u => by cases t; rfl
 | i :: p, .mk k n tx o l, u => by
  simp only [AD.graft, AD.dat, D.graft, AD.dats_map, List.getElem?_map]
  cases h : l[i.toNat]? with
  | none => simp [AD.dat, AD.dats_map]
  | some c => simp [AD.dat, AD.dats_map, List.map_set, AD.graft_dat p c u]
/-- A place that is not below another one is still there. -/
theorem D.graft_sub (u : D) : ∀ (q p : List Int) (d x : D), (∀ j, j ∈ q → 0 ≤ j) → d.sub p = some x → (∀ i r, p ≠ q ++ i :: r) → ∃ y, (d.graft q u).sub p = some y
 | [], p, d, x, h0, h, hq => by
  cases p with
  | nil => exact ⟨_, rfl⟩
  | cons i r => exact (hq i r rfl).elim
 | j :: q, p, .mk k n t l, x, h0, h, hq => by
  cases p with
  | nil => exact ⟨_, rfl⟩
  | cons i r =>
   simp only [D.sub, D.kids] at h
   split at h
   ·rename_i hi
    obtain ⟨c, hc, hcx⟩ := Option.bind_eq_some_iff.1 h
    simp only [D.graft]
    cases hj : l[j.toNat]? with
    | none =>
     refine ⟨x, ?_⟩
     simp only [D.sub, D.kids]
     rw [if_pos hi, hc]; exact hcx
    | some e =>
     simp only [D.sub, D.kids]
     rw [if_pos hi, List.getElem?_set]
     by_cases hij : j.toNat = i.toNat
     ·have hj0 := h0 j (by simp)
      have hji : j = i := by omega
      subst hji
      rw [if_pos rfl, if_pos (List.getElem?_eq_some_iff.1 hc).1]
      rw [hc] at hj
      cases hj
      simp only [Option.bind_some]
      exact D.graft_sub u q r c x (fun a ha => h0 a (by simp [ha])) hcx fun i' r' e => hq i' r' (by rw [e]; rfl)
     ·rw [if_neg hij, hc]
      exact ⟨x, hcx⟩
   ·cases h
theorem AD.graft_sub (u : AD) {q p : List Int} {t x : AD} (h0 : ∀ j, j ∈ q → 0 ≤ j) (h : t.sub p = some x) (hq : ∀ i r, p ≠ q ++ i :: r) : ∃ y, (t.graft q u).sub p = some y := by
 obtain ⟨y, hy⟩ := D.graft_sub u.dat q p t.dat x.dat h0 (by rw [AD.sub_dat, h]; rfl) hq
 rw [← AD.graft_dat, AD.sub_dat] at hy
 obtain ⟨z, hz, _⟩ := Option.map_eq_some_iff.1 hy
 exact ⟨z, hz⟩
theorem overlay_mid {pre c post u : List AV} (h : u.length = c.length) : overlay (pre ++ c ++ post) pre.length u = pre ++ u ++ post := by
 unfold overlay
 rw [show pre ++ c ++ post = pre ++ (c ++ post) from List.append_assoc _ _ _, List.take_left' rfl, h, ← List.append_assoc pre c post, List.drop_left' (by simp), List.append_assoc]
/-- Another tree is written at a place. -/
theorem AD.graftW {σ : Store} (u : AD) (hun : (u.arrs.map (·.1)).Nodup) (huH : HasU σ u.arrs) : ∀ (p : List Int) (t x : AD) (o : Nat) (pre post : List AV), HasU σ (slotU o pre post t) → ((slotU o pre post t).map (·.1)).Nodup → (∀ k, k ∈ (slotU o pre post t).map (·.1) → k ∉ u.arrs.map (·.1)) → t.sub p = some x →
  ∃ cells, σ.objs[(AD.loc (o, pre.length) t p).1]? = some (.arr cells) ∧ (AD.loc (o, pre.length) t p).2 + 4 ≤ cells.length ∧
   HasU ({ σ with objs := σ.objs.set (AD.loc (o, pre.length) t p).1 (.arr (overlay cells (AD.loc (o, pre.length) t p).2 u.cells)) } : Store) (slotU o pre post (t.graft p u)) ∧
   ((slotU o pre post (t.graft p u)).map (·.1)).Nodup ∧ (∀ k, k ∈ (t.graft p u).arrs.map (·.1) → k ∈ t.arrs.map (·.1) ∨ k ∈ u.arrs.map (·.1)) ∧ (AD.loc (o, pre.length) t p).1 ∈ (slotU o pre post t).map (·.1)
 | [], t, x, o, pre, post, h, hn, hd, hx => by
  have ho := h _ (List.mem_cons_self)
  have hou : o ∉ u.arrs.map (·.1) := hd o (by simp [slotU])
  refine ⟨_, ho, by simp [AD.loc, AD.cells_len], ?_, ?_, fun k hk => .inr hk, by simp [AD.loc, slotU]⟩
  ·intro q hq
   simp only [AD.loc, AD.graft] at hq ⊢
   rw [overlay_mid (by rw [AD.cells_len, AD.cells_len])]
   rcases List.mem_cons.1 hq with e | hq2
   ·subst e; exact List.getElem?_set_self (List.getElem?_eq_some_iff.1 ho).1
   ·rw [List.getElem?_set_ne (by intro e; exact hou (by rw [e]; exact List.mem_map.2 ⟨q, hq2, rfl⟩))]
    exact huH q hq2
  ·exact List.nodup_cons.2 ⟨hou, hun⟩
 | i :: p, .mk k n tx o' l, x, o, pre, post, h, hn, hd, hx => by
  simp only [AD.sub] at hx
  split at hx
  ·obtain ⟨c, hc, hx⟩ := Option.bind_eq_some_iff.1 hx
   simp only [AD.kids] at hc
   obtain ⟨h1, h2⟩ := set_split (c' := c.graft p u) hc
   have hne : l ≠ [] := by intro e; rw [e] at hc; simp at hc
   have hl : ((l.take i.toNat).flatMap AD.cells).length = i.toNat * 4 := by
    rw [flatCells_len, List.length_take, Nat.min_eq_left (Nat.le_of_lt (List.getElem?_eq_some_iff.1 hc).1)]; omega
   generalize hA : l.take i.toNat = A at *
   generalize hB : l.drop (i.toNat + 1) = B at *
   have hrow : (AD.mk k n tx o' l).arrs = (o', .arr (A.flatMap AD.cells ++ c.cells ++ B.flatMap AD.cells)) :: (A.flatMap AD.arrs ++ c.arrs ++ B.flatMap AD.arrs) := by
    rw [AD.arrs, rowOf_ne hne, AD.arrss_flat, h1]; simp
   have hset : (AD.mk k n tx o' l).graft (i :: p) u = .mk k n tx o' (A ++ c.graft p u :: B) := by
    simp only [AD.graft, hc, h2]
   have hrow' : ((AD.mk k n tx o' l).graft (i :: p) u).arrs = (o', .arr (A.flatMap AD.cells ++ (c.graft p u).cells ++ B.flatMap AD.cells)) :: (A.flatMap AD.arrs ++ (c.graft p u).arrs ++ B.flatMap AD.arrs) := by
    rw [hset, AD.arrs, rowOf_ne (by simp), AD.arrss_flat]; simp
   have hcells : ((AD.mk k n tx o' l).graft (i :: p) u).cells = (AD.mk k n tx o' l).cells := by
    rw [hset, AD.cells, AD.cells, kvOf_len (l := A ++ c.graft p u :: B) (r := l)]
    rw [h1]; simp
   have hsub : ∀ q, q ∈ slotU o' (A.flatMap AD.cells) (B.flatMap AD.cells) c → q ∈ slotU o pre post (AD.mk k n tx o' l) := by
    intro q hq
    refine List.mem_cons_of_mem _ ?_
    rw [hrow]
    rcases List.mem_cons.1 hq with rfl | hq
    ·exact List.mem_cons_self
    ·exact List.mem_cons_of_mem _ (List.mem_append_left _ (List.mem_append_right _ hq))
   have hkeys : (slotU o pre post (AD.mk k n tx o' l)).map (·.1) = o :: o' :: ((A.flatMap AD.arrs).map (·.1) ++ c.arrs.map (·.1) ++ (B.flatMap AD.arrs).map (·.1)) := by
    rw [slot_keys, hrow]; simp
   rw [hkeys] at hn hd
   have hn1 := List.nodup_cons.1 hn
   have hn2 := List.nodup_cons.1 hn1.2
   have hn3 := List.nodup_append.1 hn2.2
   have hn4 := List.nodup_append.1 hn3.1
   have hnc : ((slotU o' (A.flatMap AD.cells) (B.flatMap AD.cells) c).map (·.1)).Nodup := by
    rw [slot_keys]
    exact List.nodup_cons.2 ⟨fun hm => hn2.1 (List.mem_append_left _ (List.mem_append_right _ hm)), hn4.2.1⟩
   have hcin : ∀ a, a ∈ (slotU o' (A.flatMap AD.cells) (B.flatMap AD.cells) c).map (·.1) → a = o' ∨ a ∈ c.arrs.map (·.1) := fun a ha => by rw [slot_keys] at ha; exact List.mem_cons.1 ha
   obtain ⟨cells, k1, k2, k3, k4, k5, k6⟩ := AD.graftW u hun huH p c x o' (A.flatMap AD.cells) (B.flatMap AD.cells) (fun q hq => h q (hsub q hq)) hnc (fun a ha => hd a (by
    rcases hcin a ha with e | e
    ·rw [e]; simp
    ·exact List.mem_cons_of_mem _ (List.mem_cons_of_mem _ (List.mem_append_left _ (List.mem_append_right _ e))))) hx
   rw [hl] at k1 k2 k3 k6
   have hrin := hcin _ k6
   simp only [AD.loc, AD.kids, hc, AD.o]
   generalize AD.loc (o', i.toNat * 4) c p = lc at k1 k2 k3 k6 hrin ⊢
   have hc'n : ∀ a, a ∈ (c.graft p u).arrs.map (·.1) → a ∈ c.arrs.map (·.1) ∨ a ∈ u.arrs.map (·.1) := k5
   have hout : ∀ q, q ∈ slotU o pre post (AD.mk k n tx o' l) → q.1 ≠ lc.1 → (σ.objs.set lc.1 (.arr (overlay cells lc.2 u.cells)))[q.1]? = some q.2 := fun q hq hne2 => by
    rw [List.getElem?_set_ne (fun e => hne2 e.symm)]; exact h q hq
   have hlo : o ≠ lc.1 := by
    intro e
    rcases hrin with e2 | e2
    ·exact hn1.1 (by rw [e, e2]; simp)
    ·exact hn1.1 (by rw [e]; exact List.mem_cons_of_mem _ (List.mem_append_left _ (List.mem_append_right _ e2)))
   refine ⟨cells, k1, k2, fun q hq => ?_, ?_, fun a ha => ?_, ?_⟩
   ·unfold slotU at hq
    rw [hrow', hcells] at hq
    rcases List.mem_cons.1 hq with rfl | hq
    ·exact hout _ (List.mem_cons_self) hlo
    ·rcases List.mem_cons.1 hq with rfl | hq
     ·exact k3 _ (List.mem_cons_self)
     ·rcases List.mem_append.1 hq with hq | hq
      ·rcases List.mem_append.1 hq with hq | hq
       ·have hm1 : q.1 ∈ (A.flatMap AD.arrs).map (·.1) := List.mem_map.2 ⟨q, hq, rfl⟩
        refine hout q (List.mem_cons_of_mem _ (by rw [hrow]; exact List.mem_cons_of_mem _ (List.mem_append_left _ (List.mem_append_left _ hq)))) fun e => ?_
        rcases hrin with e2 | e2
        ·exact hn2.1 (by rw [← e2, ← e]; exact List.mem_append_left _ (List.mem_append_left _ hm1))
        ·exact hn4.2.2 _ hm1 _ e2 e
       ·exact k3 _ (List.mem_cons_of_mem _ hq)
      ·have hm1 : q.1 ∈ (B.flatMap AD.arrs).map (·.1) := List.mem_map.2 ⟨q, hq, rfl⟩
       refine hout q (List.mem_cons_of_mem _ (by rw [hrow]; exact List.mem_cons_of_mem _ (List.mem_append_right _ hq))) fun e => ?_
       rcases hrin with e2 | e2
       ·exact hn2.1 (by rw [← e2, ← e]; exact List.mem_append_right _ hm1)
       ·exact hn3.2.2 _ (List.mem_append_right _ e2) _ hm1 e.symm
   ·have e1 : (slotU o pre post ((AD.mk k n tx o' l).graft (i :: p) u)).map (·.1) = o :: o' :: ((A.flatMap AD.arrs).map (·.1) ++ (c.graft p u).arrs.map (·.1) ++ (B.flatMap AD.arrs).map (·.1)) := by
     rw [slot_keys, hrow']; simp
    rw [e1]
    have k4' := List.nodup_cons.1 (by rw [slot_keys] at k4; exact k4)
    have du : ∀ a, a ∈ o :: o' :: ((A.flatMap AD.arrs).map (·.1) ++ c.arrs.map (·.1) ++ (B.flatMap AD.arrs).map (·.1)) → a ∉ u.arrs.map (·.1) := hd
    refine List.nodup_cons.2 ⟨fun hm => ?_, List.nodup_cons.2 ⟨fun hm => ?_, List.nodup_append.2 ⟨List.nodup_append.2 ⟨hn4.1, k4'.2, fun a ha b hb e => ?_⟩, hn3.2.1, fun a ha b hb e => ?_⟩⟩⟩
    ·rcases List.mem_cons.1 hm with e | hm
     ·exact hn1.1 (by rw [e]; exact List.mem_cons_self)
     ·rcases List.mem_append.1 hm with hm | hm
      ·rcases List.mem_append.1 hm with hm | hm
       ·exact hn1.1 (List.mem_cons_of_mem _ (List.mem_append_left _ (List.mem_append_left _ hm)))
       ·rcases hc'n _ hm with hm | hm
        ·exact hn1.1 (List.mem_cons_of_mem _ (List.mem_append_left _ (List.mem_append_right _ hm)))
        ·exact du o (by simp) hm
      ·exact hn1.1 (List.mem_cons_of_mem _ (List.mem_append_right _ hm))
    ·rcases List.mem_append.1 hm with hm | hm
     ·rcases List.mem_append.1 hm with hm | hm
      ·exact hn2.1 (List.mem_append_left _ (List.mem_append_left _ hm))
      ·exact k4'.1 hm
     ·exact hn2.1 (List.mem_append_right _ hm)
    ·subst e
     rcases hc'n _ hb with hb | hb
     ·exact hn4.2.2 _ ha _ hb rfl
     ·exact du a (List.mem_cons_of_mem _ (List.mem_cons_of_mem _ (List.mem_append_left _ (List.mem_append_left _ ha)))) hb
    ·subst e
     rcases List.mem_append.1 ha with ha | ha
     ·exact hn3.2.2 _ (List.mem_append_left _ ha) _ hb rfl
     ·rcases hc'n _ ha with ha | ha
      ·exact hn3.2.2 _ (List.mem_append_right _ ha) _ hb rfl
      ·exact du a (List.mem_cons_of_mem _ (List.mem_cons_of_mem _ (List.mem_append_right _ hb))) ha
   ·rw [hrow'] at ha
    rw [hrow]
    simp only [List.map_cons, List.map_append, List.mem_cons, List.mem_append] at ha ⊢
    rcases ha with e | (ha | ha) | ha
    ·exact .inl (.inl e)
    ·exact .inl (.inr (.inl (.inl ha)))
    ·rcases hc'n a ha with h3 | h3
     ·exact .inl (.inr (.inl (.inr h3)))
     ·exact .inr h3
    ·exact .inl (.inr (.inr ha))
   ·rw [hkeys]
    rcases hrin with e | e
    ·rw [e]; simp
    ·exact List.mem_cons_of_mem _ (List.mem_cons_of_mem _ (List.mem_append_left _ (List.mem_append_right _ e)))
  ·cases hx
end Go.Aw

namespace Go.Aw
open Go
section
variable {ρ : Option Nat} {P : Program} {σ0 : Store} {N : Nat} {s : St} {Q : Exit → St → Prop}
/-- The cells of a datum. -/
def dCells (d : D) : List AV := [.pv (.int .i64 d.kind), .pv (.int .i64 d.num), .pv (.str d.text), .pv (.slice (d.kids.map enc))]
theorem awp_freezeRoot {c : Code} (d : Nat) {s2 : St} {M ob : Nat} {t : AD} (hx : get s.T d = .ptr ob 0) (hob : s.σ.objs[ob]? = some (.arr t.cells)) (hU : HasU s.σ t.arrs) (hM : M ≤ ob) (hge : ∀ q, q ∈ t.arrs → M ≤ q.1 ∧ q.1 ≠ ob) (hw : Weak σ0 M s.σ.toks.length s.L.length s s2)
  (k : AWpR ρ P σ0 N c Q ⟨(d, .ptr s2.σ.objs.length 0) :: s2.T, s2.L, { s2.σ with objs := s2.σ.objs ++ [.arr (dCells t.dat)] }⟩) : AWpR ρ P σ0 N c Q s := by
 rintro g0 w0 a w ⟨g, r⟩
 have r2 := hw.rel r
 have hpr := r.2.2.2.2 d
 rw [hx] at hpr
 generalize hpv : a.tmps.getD d undef = pv at hpr
 cases hpr with
 | ptr hio =>
  rename_i b
  obtain ⟨hnl, vs, rest, e, h6, h7, h8, h9⟩ := r.2.1.objs ob _ b hob hio
  have hA := r2.2.1.addSs (fun b => ∃ q, q ∈ t.arrs ∧ g.io[q.1]? = some b) (by
   rintro b ⟨q, hq, hb⟩
   exact r.2.1.freshOld hb (hge q hq).1)
  have r3 := r2.later (σ' := s2.σ) (L' := s2.L) hA.2 (fun _ _ h => h) hA.1 rfl rfl (fun _ _ => rfl) (Nat.le_refl _) rfl rfl rfl
  have hf0 := r.2.1.freshOld (no := M) (nt := s.σ.toks.length) (nl := s.L.length) hio hM
  have ap := r.2.1.apart
  have hf : Fresh { g.cut M s.σ.toks.length s.L.length with S := fun c o => (g.cut M s.σ.toks.length s.L.length).S c o ∨ ∃ q, q ∈ t.arrs ∧ g.io[q.1]? = some c } w b := by
   refine ⟨hf0.low, hf0.lt, hf0.K, fun o hS => ?_, hf0.own⟩
   rcases hS with hS | ⟨q, hq, hb⟩
   ·exact hf0.S o hS
   ·exact (hge q hq).2 (nodup_get ap.1.1 hb hio)
  have hks : Keeps g.B g.S (fun c o => g.S c o ∨ ∃ q, q ∈ t.arrs ∧ g.io[q.1]? = some c) w w := ⟨fun _ _ h => .inl h, fun _ _ _ => rfl, fun _ _ => rfl⟩
  have hro : RObj { g.cut M s.σ.toks.length s.L.length with S := fun c o => (g.cut M s.σ.toks.length s.L.length).S c o ∨ ∃ q, q ∈ t.arrs ∧ g.io[q.1]? = some c } s2.σ.toks w b (.arr (dCells t.dat)) := by
   refine ⟨fun x hx => ?_, vs, rest, e, h6, by rw [h7, AD.cells_len]; rfl, h8, fun i x v hx hv => ?_⟩
   ·simp only [dCells, List.mem_cons, List.not_mem_nil, or_false] at hx
    rcases hx with rfl | rfl | rfl | rfl <;> rfl
   ·rw [AD.cells_eq] at h9
    simp only [dCells] at hx
    match i, hx with
    | 0, hx => simp only [List.getElem?_cons_zero, Option.some.injEq] at hx; subst hx; have := (h9 0 _ v rfl hv).pv_inv.mono hks; rw [AD.dat_kind]; exact .pv this
    | 1, hx => simp only [List.getElem?_cons_succ, List.getElem?_cons_zero, Option.some.injEq] at hx; subst hx; have := (h9 1 _ v rfl hv).pv_inv.mono hks; rw [AD.dat_num]; exact .pv this
    | 2, hx => simp only [List.getElem?_cons_succ, List.getElem?_cons_zero, Option.some.injEq] at hx; subst hx; have := (h9 2 _ v rfl hv).pv_inv.mono hks; rw [AD.dat_text]; exact .pv this
    | 3, hx =>
     simp only [List.getElem?_cons_succ, List.getElem?_cons_zero, Option.some.injEq] at hx; subst hx
     refine .pv (AD.reads (g := g) (tk := s.σ.toks) (fun b o h => .inl h) t v (fun q hq => ?_) (h9 3 _ v rfl hv))
     have h4 := hU q hq
     have hlt : q.1 < g.io.length := by rw [r.2.1.lio]; exact (List.getElem?_eq_some_iff.1 h4).1
     exact ⟨g.io[q.1], by simp, r.2.1.objs q.1 q.2 _ h4 (by simp), fun o => .inr ⟨q, hq, by simp⟩⟩
    | n + 4, hx => simp at hx
  have r4 := r3.addObj hf hro
  refine k g0 w0 a w ⟨_, r4.1, r4.2.1, r4.2.2.1, r4.2.2.2.1, fun t' => ?_⟩
  simp only [get]
  split
  ·subst_vars
   rw [hpv]
   refine .ptr ?_
   have hl := r2.2.1.lio
   show ((g.cut M s.σ.toks.length s.L.length).io ++ [b])[s2.σ.objs.length]? = some b
   rw [← hl]; simp
  ·exact r4.2.2.2.2 t'
end
end Go.Aw

namespace Go.Aw
open Go
section
variable {ρ : Option Nat} {P : Program} {σ0 : Store} {N : Nat} {s : St} {Q : Exit → St → Prop}
theorem Inv.freshOldL {g : Ghost} {σ : Store} {L : List (List AV)} {w : World} (h : Inv g σ L w) {i no nt nl b : Nat} (hi : g.lam[i]? = some b) (hno : nl ≤ i) : Fresh (g.cut no nt nl) w b := by
 have hown : b ∈ g.owned := by simp only [Ghost.owned, List.mem_append]; exact .inl (.inr (List.mem_of_getElem? hi))
 have hlow := h.low b hown
 have ap := h.apart
 refine ⟨hlow.1, hlow.2.1, hlow.2.2, fun o hS => (h.cells b o hS).2.2.2 (List.mem_of_getElem? hi), ?_⟩
 have hnd := h.nodup
 intro hm
 simp only [Ghost.owned, Ghost.cut, List.mem_append] at hm
 rcases hm with (hm | hm) | hm
 ·exact ap.2.1 b (List.mem_of_mem_take hm) (List.mem_of_getElem? hi)
 ·obtain ⟨q, hq, hqe⟩ := List.getElem_of_mem hm
  have hq2 : q < nl := by rw [List.length_take] at hq; omega
  have h1 : g.lam[q]? = some b := by
   rw [List.getElem_take] at hqe
   rw [← hqe]; simp
  have := nodup_get ap.1.2 h1 hi
  omega
 ·obtain ⟨tb, htb, hte⟩ := List.mem_filterMap.1 hm
  cases tb with
  | none => cases hte
  | some tb =>
   simp only [Option.map_some, Option.some.injEq] at hte
   obtain ⟨kk, hkk, hke⟩ := List.getElem_of_mem (List.mem_of_mem_take htb)
   have := (ap.2.2 kk tb (by rw [← hke]; simp)).2
   rw [hte] at this
   exact this (List.mem_of_getElem? hi)
theorem Fresh.addIo {g : Ghost} {w : World} {b c : Nat} (h : Fresh g w b) (hne : b ≠ c) : Fresh { g with io := g.io ++ [c] } w b := by
 refine ⟨h.low, h.lt, h.K, h.S, fun hm => h.own ?_⟩
 simp only [Ghost.owned, List.mem_append, List.mem_singleton] at hm ⊢
 rcases hm with ((hm | hm) | hm) | hm
 ·exact .inl (.inl hm)
 ·exact absurd hm hne
 ·exact .inl (.inr hm)
 ·exact .inr hm
theorem awp_pub2 {c : Code} (d1 d2 : Nat) {s2 : St} {M nl i j a b : Nat} {ks vs ks' vs' : List PV} (h1 : get s.T d1 = .lptr i 0) (h2 : get s.T d2 = .lptr j 0) (hij : i ≠ j) (hLi : s.L[i]? = some [.map a]) (hLj : s.L[j]? = some [.map b]) (hab : a ≠ b)
  (ha : s.σ.objs[a]? = some (.map ks vs)) (hb : s.σ.objs[b]? = some (.map ks' vs')) (hMa : M ≤ a) (hMb : M ≤ b) (hli : nl ≤ i) (hlj : nl ≤ j) (hd : d1 ≠ d2) (hw : Weak σ0 M s.σ.toks.length nl s s2)
  (k : AWpR ρ P σ0 N c Q ⟨(d1, .ptr (s2.σ.objs.length + 2) 0) :: (d2, .ptr (s2.σ.objs.length + 3) 0) :: s2.T, s2.L, { s2.σ with objs := s2.σ.objs ++ [.map ks vs, .map ks' vs', .box [.map s2.σ.objs.length], .box [.map (s2.σ.objs.length + 1)]] }⟩) : AWpR ρ P σ0 N c Q s := by
 rintro g0 w0 ac w ⟨g, r⟩
 have r2 := hw.rel r
 have hl2 := r2.2.1.lio
 have ap := r.2.1.apart
 have hp1 := r.2.2.2.2 d1
 rw [h1] at hp1
 generalize hv1 : ac.tmps.getD d1 undef = v1 at hp1
 have hp2 := r.2.2.2.2 d2
 rw [h2] at hp2
 generalize hv2 : ac.tmps.getD d2 undef = v2 at hp2
 cases hp1 with
 | lptr hi =>
  rename_i bi
  cases hp2 with
  | lptr hj =>
   rename_i bj
   obtain ⟨ui, ei, hi1, hi2, hi3, hi4⟩ := r.2.1.priv i _ bi hLi hi
   obtain ⟨uj, ej, hj1, hj2, hj3, hj4⟩ := r.2.1.priv j _ bj hLj hj
   match ui, hi2 with
   | [xi], hlen1 =>
    match uj, hj2 with
    | [xj], hlen2 =>
     have hxi := hi4 0 (.map a) xi rfl rfl
     have hxj := hj4 0 (.map b) xj rfl rfl
     cases hxi with
     | map hia =>
      rename_i ba
      cases hxj with
      | map hib =>
       rename_i bb
       have hoa := r.2.1.objs a _ ba ha hia
       have hob := r.2.1.objs b _ bb hb hib
       have fa := r.2.1.freshOld (no := M) (nt := s.σ.toks.length) (nl := nl) hia hMa
       have fb := r.2.1.freshOld (no := M) (nt := s.σ.toks.length) (nl := nl) hib hMb
       have fi := r.2.1.freshOldL (no := M) (nt := s.σ.toks.length) (nl := nl) hi hli
       have fj := r.2.1.freshOldL (no := M) (nt := s.σ.toks.length) (nl := nl) hj hlj
       have nab : bb ≠ ba := fun e => hab (nodup_get ap.1.1 hia (e ▸ hib))
       have nia : bi ≠ ba := fun e => ap.2.1 ba (List.mem_of_getElem? hia) (e ▸ List.mem_of_getElem? hi)
       have nib : bi ≠ bb := fun e => ap.2.1 bb (List.mem_of_getElem? hib) (e ▸ List.mem_of_getElem? hi)
       have nja : bj ≠ ba := fun e => ap.2.1 ba (List.mem_of_getElem? hia) (e ▸ List.mem_of_getElem? hj)
       have njb : bj ≠ bb := fun e => ap.2.1 bb (List.mem_of_getElem? hib) (e ▸ List.mem_of_getElem? hj)
       have nji : bj ≠ bi := fun e => hij (nodup_get ap.1.2 hi (e ▸ hj))
       have r3 := r2.addObj fa (ob := .map ks vs) hoa
       have r4 := r3.addObj (fb.addIo nab) (ob := .map ks' vs') hob
       have g4a : (((g.cut M s.σ.toks.length nl).io ++ [ba]) ++ [bb])[s2.σ.objs.length]? = some ba := by rw [← hl2]; simp
       have g4b : (((g.cut M s.σ.toks.length nl).io ++ [ba]) ++ [bb])[s2.σ.objs.length + 1]? = some bb := by rw [← hl2]; simp
       have r5 := r4.addObj ((fi.addIo nia).addIo nib) (ob := .box [.map s2.σ.objs.length]) ⟨fun x hx => by rw [List.mem_singleton] at hx; subst hx; rfl, [.map (some ba)], ei, hi1, rfl, hi3, fun q x v hx hv => by
        cases q with
        | zero => simp at hx hv; subst hx; subst hv; exact .map g4a
        | succ q => simp at hx⟩
       have g5b : ((((g.cut M s.σ.toks.length nl).io ++ [ba]) ++ [bb]) ++ [bi])[s2.σ.objs.length + 1]? = some bb := by rw [List.getElem?_append_left (List.getElem?_eq_some_iff.1 g4b).1]; exact g4b
       have r6 := r5.addObj (((fj.addIo nja).addIo njb).addIo nji) (ob := .box [.map (s2.σ.objs.length + 1)]) ⟨fun x hx => by rw [List.mem_singleton] at hx; subst hx; rfl, [.map (some bb)], ej, hj1, rfl, hj3, fun q x v hx hv => by
        cases q with
        | zero => simp at hx hv; subst hx; subst hv; exact .map g5b
        | succ q => simp at hx⟩
       have e6 : ((((s2.σ.objs ++ [AObj.map ks vs]) ++ [AObj.map ks' vs']) ++ [AObj.box [.map s2.σ.objs.length]]) ++ [AObj.box [.map (s2.σ.objs.length + 1)]]) = s2.σ.objs ++ [.map ks vs, .map ks' vs', .box [.map s2.σ.objs.length], .box [.map (s2.σ.objs.length + 1)]] := by simp
       simp only [e6] at r6
       refine k g0 w0 ac w ⟨_, r6.1, r6.2.1, r6.2.2.1, r6.2.2.2.1, fun t => ?_⟩
       simp only [get]
       split
       ·subst_vars
        rw [hv1]
        refine .ptr ?_
        show (((((g.cut M s.σ.toks.length nl).io ++ [ba]) ++ [bb]) ++ [bi]) ++ [bj])[s2.σ.objs.length + 2]? = some bi
        rw [← hl2]; simp
       ·split
        ·subst_vars
         rw [hv2]
         refine .ptr ?_
         show (((((g.cut M s.σ.toks.length nl).io ++ [ba]) ++ [bb]) ++ [bi]) ++ [bj])[s2.σ.objs.length + 3]? = some bj
         rw [← hl2]; simp
        ·exact r6.2.2.2.2 t
end
end Go.Aw

namespace Go.Aw
open Go
/-- A copy is put at a place: the objects, and the tree. -/
def gStep (a : D) (ob : Nat) (st : List AObj × AD) (p : List Int) : List AObj × AD :=
 match (st.1 ++ lobjs st.1.length a)[(AD.loc (ob, 0) st.2 p).1]? with
 | some (.arr cells) => ((st.1 ++ lobjs st.1.length a).set (AD.loc (ob, 0) st.2 p).1 (.arr (overlay cells (AD.loc (ob, 0) st.2 p).2 (lay st.1.length a).cells)), st.2.graft p (lay st.1.length a))
 | _ => (st.1 ++ lobjs st.1.length a, st.2.graft p (lay st.1.length a))
structure GOk (gl : List (Nat × PV)) (tk : List Tok) (M ob : Nat) (st : List AObj × AD) : Prop where
 hU : HasU ⟨gl, st.1, tk⟩ (rootU ob st.2)
 nd : ((rootU ob st.2).map (·.1)).Nodup
 ge : ∀ i, i ∈ (rootU ob st.2).map (·.1) → M ≤ i
theorem GOk.step {gl : List (Nat × PV)} {tk : List Tok} {M ob : Nat} {st : List AObj × AD} (h : GOk gl tk M ob st) (a : D) {p : List Int} {x : AD} (hx : st.2.sub p = some x) :
  GOk gl tk M ob (gStep a ob st p) ∧ (gStep a ob st p).2 = st.2.graft p (lay st.1.length a) ∧ (gStep a ob st p).1.take M = st.1.take M ∧ st.1.length ≤ (gStep a ob st p).1.length ∧
   ∃ cells, (st.1 ++ lobjs st.1.length a)[(AD.loc (ob, 0) st.2 p).1]? = some (.arr cells) ∧ (AD.loc (ob, 0) st.2 p).2 + 4 ≤ cells.length ∧ (gStep a ob st p).1 = (st.1 ++ lobjs st.1.length a).set (AD.loc (ob, 0) st.2 p).1 (.arr (overlay cells (AD.loc (ob, 0) st.2 p).2 (lay st.1.length a).cells)) := by
 have hua := lay_has (σ := ⟨gl, st.1 ++ lobjs st.1.length a, tk⟩) (A := st.1) (C := []) (d := a) (by simp)
 have hr : HasU ⟨gl, st.1 ++ lobjs st.1.length a, tk⟩ (rootU ob st.2) := h.hU.app _ _
 have hlt : ∀ i, i ∈ (rootU ob st.2).map (·.1) → i < st.1.length := fun i hi => by
  obtain ⟨q, hq, rfl⟩ := List.mem_map.1 hi
  exact h.hU.lt hq
 have hku : ∀ i, i ∈ (lay st.1.length a).arrs.map (·.1) → st.1.length ≤ i := fun i hi => by
  rw [lay_keys, List.mem_range'_1] at hi; exact hi.1
 have hob : M ≤ ob := h.ge ob (by simp [rootU])
 have hMl : M ≤ st.1.length := by have := hlt ob (by simp [rootU]); omega
 rw [rootU_slot] at hr hlt
 have hnd := h.nd
 rw [rootU_slot] at hnd
 obtain ⟨cells, k1, k2, k3, k4, k5, k6⟩ := AD.graftW (lay st.1.length a) (lay_nodup _ _) hua p st.2 x ob [] [] hr hnd (fun k hk hk2 => by have := hlt k hk; have := hku k hk2; omega) hx
 simp only [List.length_nil] at k1 k2 k3 k6
 have hs : gStep a ob st p = ((st.1 ++ lobjs st.1.length a).set (AD.loc (ob, 0) st.2 p).1 (.arr (overlay cells (AD.loc (ob, 0) st.2 p).2 (lay st.1.length a).cells)), st.2.graft p (lay st.1.length a)) := by
  unfold gStep
  rw [k1]
 have hlM : M ≤ (AD.loc (ob, 0) st.2 p).1 := h.ge _ (by rw [rootU_slot]; exact k6)
 refine ⟨⟨?_, ?_, ?_⟩, by rw [hs], ?_, ?_, cells, k1, k2, by rw [hs]⟩
 ·rw [hs, rootU_slot]; exact k3
 ·rw [hs, rootU_slot]; exact k4
 ·intro i hi
  rw [hs] at hi
  rcases List.mem_cons.1 hi with e | hi
  ·rw [e]; exact hob
  ·rcases k5 i hi with hi | hi
   ·exact h.ge i (List.mem_cons_of_mem _ hi)
   ·have := hku i hi; omega
 ·rw [hs, List.take_set_of_le hlM, List.take_append_of_le_length hMl]
 ·rw [hs]; simp
def gK (a : D) (ob : Nat) (ps : List (List Int)) (st : List AObj × AD) (k : Nat) : List AObj × AD := (ps.take k).foldl (gStep a ob) st
theorem gK_next {a : D} {ob : Nat} {ps : List (List Int)} {st : List AObj × AD} {k : Nat} {p : List Int} (h : ps[k]? = some p) : gK a ob ps st (k + 1) = gStep a ob (gK a ob ps st k) p := by
 unfold gK
 rw [take_next h, List.foldl_append]; rfl
/-- No place is below another one. -/
def ApartP (ps : List (List Int)) : Prop := ∀ p, p ∈ ps → ∀ q, q ∈ ps → ∀ i r, p ≠ q ++ i :: r
theorem gK_ok {gl : List (Nat × PV)} {tk : List Tok} {M ob : Nat} {st : List AObj × AD} (h : GOk gl tk M ob st) (a : D) {ps : List (List Int)} (hs : ∀ p, p ∈ ps → ∃ x, st.2.sub p = some x) (ha : ApartP ps) (h0 : ∀ p, p ∈ ps → ∀ j, j ∈ p → 0 ≤ j) : ∀ k, k ≤ ps.length →
  GOk gl tk M ob (gK a ob ps st k) ∧ (∀ p, p ∈ ps → ∃ x, (gK a ob ps st k).2.sub p = some x) ∧ (gK a ob ps st k).2.dat = (ps.take k).foldl (fun d p => d.graft p a) st.2.dat ∧ (gK a ob ps st k).1.take M = st.1.take M ∧ st.1.length ≤ (gK a ob ps st k).1.length := by
 intro k
 induction k with
 | zero => intro _; exact ⟨h, hs, rfl, rfl, Nat.le_refl _⟩
 | succ k ih =>
  intro hk
  obtain ⟨i1, i2, i3, i4, i5⟩ := ih (by omega)
  have hp : ps[k]? = some (ps[k]'(by omega)) := by simp
  have hpm := List.mem_of_getElem? hp
  obtain ⟨x, hx⟩ := i2 _ hpm
  obtain ⟨j1, j2, j3, j4, _⟩ := i1.step a hx
  rw [gK_next hp]
  refine ⟨j1, fun q hq => ?_, ?_, j3.trans i4, Nat.le_trans i5 j4⟩
  ·rw [j2]
   obtain ⟨y, hy⟩ := i2 q hq
   exact AD.graft_sub _ (h0 _ hpm) hy (ha q hq _ hpm)
  ·rw [j2, AD.graft_dat, lay_dat, i3, take_next hp, List.foldl_append]; rfl
section
variable {P : Program} {ty : TyT} {σ0 : Store} {N : Nat} {s : St} {o : Oper} {ops : Array Oper} {os : List Oper} {K : St → Prop}
/-- A copy is written at a place. -/
theorem al_graftStore {a : D} {gl : List (Nat × PV)} {tk : List Tok} {M ob : Nat} {st : List AObj × AD} {p : List Int} {x : AD} (hok : GOk gl tk M ob st) (hx : st.2.sub p = some x) (hs : s.σ = ⟨gl, st.1 ++ lobjs st.1.length a, tk⟩)
  (hty : TyOk P ty) {t : TypeId} {pp y : Operand} {ti : TyI} (hg : o.guard = none) (ho : o.op = .store t pp y) (hdst : o.dst = none) (hti : ty t = some ti) (h1 : ti.size = 4)
  (hp : ev s pp = .ptr (AD.loc (ob, 0) st.2 p).1 (AD.loc (ob, 0) st.2 p).2) (hy : ev s y = (lay st.1.length a).av) (k : AOpsL P σ0 N ops os K ⟨s.T, s.L, ⟨gl, (gStep a ob st p).1, tk⟩⟩) : AOpsL P σ0 N ops (o :: os) K s := by
 obtain ⟨_, _, _, _, cells, k1, k2, k3⟩ := hok.step a hx
 refine al_cons hg (aop_storeA hty (i := (AD.loc (ob, 0) st.2 p).1) (off := (AD.loc (ob, 0) st.2 p).2) (cs := cells) (ds := (lay st.1.length a).cells) ho hp hti (by rw [hs]; exact k1) (by rw [hy]; exact AD.av_cells _) (lay_cells_noL _ _) (by rw [h1, AD.cells_len]) (by rw [AD.cells_len]; exact k2) (by rw [hdst]; rfl) ?_)
 rw [hdst]
 simp only [St.put]
 rw [hs]
 simp only
 rw [← k3]
 exact k
end
/-- What a substitution leaves. -/
def sbPl (e : D) (x : ByteArray) : FSt := fnd x e [] [] ([], [])
def sbRn (e : D) (x : ByteArray) (a : D) : D × List ByteArray := rnRes (sbTo (sfree a [] []) (sbPl e x).2) e (symSs [e, a] [])
def sbRes (e : D) (x : ByteArray) (a : D) : D := (sbPl e x).1.foldl (fun d p => d.graft p a) (sbRn e x a).1
/-- The places are names. -/
theorem fnd_places (x : ByteArray) : ∀ (d : D) (p : List Int) (sc : List (ByteArray × ByteArray)) (s : FSt) (q : List Int), q ∈ (fnd x d p sc s).1 → q ∈ s.1 ∨ ∃ r y, q = p ++ r ∧ d.sub r = some y ∧ synKind y = 2 := by
 intro d
 induction d using D.indS with
 | h d ih =>
  intro p sc s q hq
  have up : ∀ (c : Aw.Sub × D), c ∈ subs d → (∃ r y, q = (p ++ c.1.p) ++ r ∧ c.2.sub r = some y ∧ synKind y = 2) → ∃ r y, q = p ++ r ∧ d.sub r = some y ∧ synKind y = 2 := by
   rintro c hc ⟨r, y, h1, h2, h3⟩
   exact ⟨c.1.p ++ r, y, by rw [h1, List.append_assoc], by rw [D.sub_append, D.sub_subs hc]; exact h2, h3⟩
  by_cases h2 : synKind d = 2
  ·rw [fnd_name h2] at hq
   split at hq
   ·simp only [List.mem_append, List.mem_singleton] at hq
    rcases hq with hq | hq
    ·exact .inl hq
    ·exact .inr ⟨[], d, by rw [hq]; simp, rfl, h2⟩
   ·exact .inl hq
  by_cases h5 : synKind d = 5 ∨ synKind d = 9
  ·rw [fnd_fn h5] at hq
   have hm : subL d 2 (d2 d.kids) ∈ subs d := by rw [subs_of_fn h5]; simp
   rcases ih _ hm _ _ _ _ hq with h | h
   ·exact .inl h
   ·exact .inr (up _ hm h)
  by_cases h6 : synKind d = 6
  ·rw [fnd_let h6] at hq
   have hm : (⟨[2], []⟩, d2 d.kids) ∈ subs d := by rw [subs_of_let h6]; simp
   have hm3 : subL d 3 (d.kids.getD 3 dnone) ∈ subs d := by rw [subs_of_let h6]; simp
   rcases ih _ hm3 _ _ _ _ hq with h | h
   ·rcases ih _ hm _ _ _ _ h with h | h
    ·exact .inl h
    ·exact .inr (up _ hm h)
   ·exact .inr (up _ hm3 h)
  by_cases h7 : synKind d = 7
  ·rw [fnd_rec h7] at hq
   have hm : subL d 2 (d2 d.kids) ∈ subs d := by rw [subs_of_rec h7]; simp
   rcases ih _ hm _ _ _ _ hq with h | h
   ·have key : ∀ (inn : List (ByteArray × ByteArray)) (k : Nat), k ≤ (d1 d.kids).kids.length → q ∈ (fndD x d p inn k s).1 → q ∈ s.1 ∨ ∃ r y, q = p ++ r ∧ d.sub r = some y ∧ synKind y = 2 := by
     intro inn k
     induction k with
     | zero => intro _ h; exact .inl h
     | succ k ihk =>
      intro hk h
      have hx : (d1 d.kids).kids[k]? = some ((d1 d.kids).kids[k]'(by omega)) := by simp
      rw [fndD_next hx] at h
      have hmk : subR d k ((d1 d.kids).kids[k]'(by omega)) ∈ subs d := by rw [subs_of_rec h7]; exact List.mem_append_left _ (List.mem_of_getElem? (by rw [mapI_get, hx]; rfl))
      rcases ih _ hmk _ _ _ _ h with h | h
      ·exact ihk (by omega) h
      ·exact .inr (up _ hmk h)
    exact key _ _ (Nat.le_refl _) h
   ·exact .inr (up _ hm h)
  ·have hr : synKind d ≠ 2 ∧ synKind d ≠ 5 ∧ synKind d ≠ 9 ∧ synKind d ≠ 6 ∧ synKind d ≠ 7 := by omega
   rw [← fndS_all hr] at hq
   have key : ∀ k, k ≤ (subs d).length → q ∈ (fndS x d p sc k s).1 → q ∈ s.1 ∨ ∃ r y, q = p ++ r ∧ d.sub r = some y ∧ synKind y = 2 := by
    intro k
    induction k with
    | zero => intro _ h; exact .inl h
    | succ k ihk =>
     intro hk h
     have hx : (subs d)[k]? = some ((subs d)[k]'(by omega)) := by simp
     have hmk := List.mem_of_getElem? hx
     rw [fndS_next hx] at h
     rcases ih _ hmk _ _ _ _ h with h | h
     ·exact ihk (by omega) h
     ·exact .inr (up _ hmk h)
   exact key _ (Nat.le_refl _) hq
theorem formed_sub : ∀ (p : List Int) (d y : D), formed d = true → d.sub p = some y → formed y = true
 | [], d, y, h, hy => by cases hy; exact h
 | i :: p, d, y, h, hy => by
  simp only [D.sub] at hy
  split at hy
  ·obtain ⟨c, hc, hy⟩ := Option.bind_eq_some_iff.1 hy
   exact formed_sub p c y (formed_kids h (List.mem_of_getElem? hc)) hy
  ·cases hy
theorem syn2_kind {y : D} (h : synKind y = 2) : y.kind = 2 := by
 unfold synKind at h
 by_cases h1 : (y.kind == 1) = true
 ·rw [if_pos h1] at h; cases h
 ·rw [if_neg h1] at h
  by_cases h2 : (y.kind == 2) = true
  ·simpa using h2
  ·rw [if_neg h2] at h
   exfalso
   split at h
   ·cases h
   ·split at h
    ·split at h <;> cases h
    ·split at h
     ·rename_i hf
      rw [h] at hf
      simp [fmOk] at hf
     ·cases h
theorem places_sub {x : ByteArray} {e : D} {p : List Int} (h : p ∈ (sbPl e x).1) : ∃ y, e.sub p = some y ∧ synKind y = 2 := by
 rcases fnd_places x e [] [] ([], []) p h with h | ⟨r, y, h1, h2, h3⟩
 ·simp at h
 ·exact ⟨y, by rw [h1]; exact h2, h3⟩
theorem places_apart {x : ByteArray} {e : D} (hf : formed e = true) : ApartP (sbPl e x).1 := by
 intro p hp q hq i r he
 obtain ⟨y, hy, _⟩ := places_sub hp
 obtain ⟨z, hz, hz2⟩ := places_sub hq
 have hk := (formed_sym (formed_sub q e z hf hz) (syn2_kind hz2)).2.1
 rw [he, D.sub_append, hz] at hy
 simp only [Option.bind_some, D.sub, hk] at hy
 split at hy
 ·simp at hy
 ·cases hy
end Go.Aw

namespace Go.Aw
open Go
mutual
def peq : PV → PV → Bool
 | .slice xs, .slice ys => peqs xs ys
 | .agg xs, .agg ys => peqs xs ys
 | .ptr xs, .ptr ys => peqs xs ys
 | .int k n, .int j m => pvAtomEq (.int k n) (.int j m)
 | .bool a, .bool b => a == b
 | .str a, .str b => decide (a = b)
 | .nils, .nils => true
 | .nilp, .nilp => true
 | .nilif, .nilif => true
 | .nilmap, .nilmap => true
 | .nilfn, .nilfn => true
 | _, _ => false
def peqs : List PV → List PV → Bool
 | [], [] => true
 | x :: xs, y :: ys => peq x y && peqs xs ys
 | _, _ => false
end
mutual
theorem peq_eq : ∀ {a b : PV}, peq a b = true → a = b
 | .slice xs, b, h => by cases b <;> simp [peq] at h; rw [peqs_eq h]
 | .agg xs, b, h => by cases b <;> simp [peq] at h; rw [peqs_eq h]
 | .ptr xs, b, h => by cases b <;> simp [peq] at h; rw [peqs_eq h]
 | .int k n, b, h => by cases b <;> simp [peq] at h; exact pvAtomEq_eq h
 | .bool a, b, h => by cases b <;> simp [peq] at h; rw [h]
 | .str a, b, h => by cases b <;> simp [peq] at h; rw [h]
 | .nils, b, h => by cases b <;> simp [peq] at h; rfl
 | .nilp, b, h => by cases b <;> simp [peq] at h; rfl
 | .nilif, b, h => by cases b <;> simp [peq] at h; rfl
 | .nilmap, b, h => by cases b <;> simp [peq] at h; rfl
 | .nilfn, b, h => by cases b <;> simp [peq] at h; rfl
 | .iface t p, b, h => by cases b <;> simp [peq] at h
 | .map ks vs, b, h => by cases b <;> simp [peq] at h
 | .tab k zs, b, h => by cases b <;> simp [peq] at h
theorem peqs_eq : ∀ {a b : List PV}, peqs a b = true → a = b
 | [], [], _ => rfl
 | x :: xs, y :: ys, h => by
  simp only [peqs, Bool.and_eq_true] at h
  rw [peq_eq h.1, peqs_eq h.2]
 | [], _ :: _, h => by simp [peqs] at h
 | _ :: _, [], h => by simp [peqs] at h
end
/-- Does the run give this, and leave nothing? -/
def gives (o : Option (AV × Store)) (q : PV) : Bool :=
 match o with
 | some (r, σ) => match r, σ.objs, σ.toks with
  | .pv p, [], [] => peq p q
  | _, _, _ => false
 | none => false

theorem purAt_eval {C : Cfg} {G : List (Nat × PV)} (H : CfgOk C G) {n : Nat} {f : FuncId} {args : List AV} {q : PV} (h : gives (evF C n f args ⟨G, [], []⟩) q = true) : PurAt C.P ⟨G, [], []⟩ f args (.pv q) := by
 cases he : evF C n f args ⟨G, [], []⟩ with
 | none => rw [he] at h; cases h
 | some p =>
  obtain ⟨r, σ'⟩ := p
  rw [he] at h
  have hg := evF_gl he
  have hc := (ev_sound H n).1 f args ⟨G, [], []⟩ r σ' rfl he
  obtain ⟨gl, objs, toks⟩ := σ'
  simp only [gives] at h
  split at h
  ·simp only at hg
   subst hg
   rw [peq_eq h] at hc
   exact hc
  ·cases h
end Go.Aw

namespace Go.Aw
open Go
/-! ### a datum cut: as far as there is room -/
def cutX (s : ByteArray) : ByteArray := s.extract 0 (if (42 : Int) < s.size then (42 : Int) else s.size).toNat
def cutS (f : D → Nat → D × Nat) (st : List D × Nat) (k : D) : List D × Nat := if st.2 = 0 then st else (st.1 ++ [(f k st.2).1], (f k st.2).2)
def cutD : Nat → D → Nat → D × Nat
 | 0, d, lf => (.mk d.kind d.num (cutX d.text) [], lf - 1)
 | n + 1, d, lf =>
  let r := if n = 0 then ([], lf - 1) else d.kids.foldl (cutS (cutD n)) ([], lf - 1)
  (.mk d.kind d.num (cutX d.text) r.1, r.2)
theorem cutS_stop (f : D → Nat → D × Nat) (l : List D) (st : List D × Nat) (h : st.2 = 0) : l.foldl (cutS f) st = st := by
 induction l with
 | nil => rfl
 | cons x l ih => rw [List.foldl_cons]; unfold cutS; rw [if_pos h]; exact ih
/-- The kids that are cut already: as many as are there. -/
def cutI (n : Nat) (d : D) (lf : Nat) (i : List D × Nat) : Prop := i.1.length ≤ d.kids.length ∧ (if n = 0 then i = ([], lf - 1) else i = (d.kids.take i.1.length).foldl (cutS (cutD n)) ([], lf - 1)) ∧ D.sizes i.1 + i.2 + 1 ≤ lf
theorem cutI_zero {n : Nat} {d : D} {lf : Nat} (h : 0 < lf) : cutI n d lf ([], lf - 1) := by
 refine ⟨Nat.zero_le _, ?_, by simp [D.sizes]; omega⟩
 split <;> rfl
theorem cutI_next {n : Nat} {d : D} {lf : Nat} {i : List D × Nat} {x : D} (h : cutI n d lf i) (hn : n ≠ 0) (h2 : 0 < i.2) (hx : d.kids[i.1.length]? = some x) (hs : (cutD n x i.2).1.size + (cutD n x i.2).2 ≤ i.2) :
  cutI n d lf (i.1 ++ [(cutD n x i.2).1], (cutD n x i.2).2) := by
 obtain ⟨h1, h3, h4⟩ := h
 rw [if_neg hn] at h3
 have hlt := (List.getElem?_eq_some_iff.1 hx).1
 refine ⟨by simp; omega, ?_, by simp [sizes_append, D.sizes]; omega⟩
 rw [if_neg hn]
 simp only [List.length_append, List.length_cons, List.length_nil, Nat.zero_add]
 rw [take_next hx, List.foldl_append, ← h3]
 simp only [List.foldl_cons, List.foldl_nil]
 unfold cutS
 rw [if_neg (by omega)]
theorem cutI_end {n : Nat} {d : D} {lf : Nat} {i : List D × Nat} (h : cutI n d lf i) (he : i.1.length = d.kids.length ∨ n = 0 ∨ i.2 = 0) : cutD (n + 1) d lf = (.mk d.kind d.num (cutX d.text) i.1, i.2) := by
 obtain ⟨h1, h3, h4⟩ := h
 unfold cutD
 by_cases hn : n = 0
 ·rw [if_pos hn] at h3 ⊢
  rw [h3]
 ·rw [if_neg hn] at h3 ⊢
  have : d.kids.foldl (cutS (cutD n)) ([], lf - 1) = i := by
   rcases he with he | he | he
   ·rw [he, List.take_length] at h3; exact h3.symm
   ·exact absurd he hn
   ·conv => lhs; rw [← List.take_append_drop i.1.length d.kids, List.foldl_append, ← h3]
    exact cutS_stop _ _ _ he
  simp only [this]
theorem cutD_size : ∀ (n : Nat) (d : D) (lf : Nat), 0 < lf → (cutD n d lf).1.size + (cutD n d lf).2 ≤ lf
 | 0, d, lf, h => by simp [cutD, D.size, D.sizes]; omega
 | n + 1, d, lf, h => by
  unfold cutD
  by_cases hn : n = 0
  ·simp [hn, D.size, D.sizes]; omega
  ·simp only [hn, if_false]
   have key : ∀ (l : List D) (st : List D × Nat), D.sizes st.1 + st.2 + 1 ≤ lf → D.sizes (l.foldl (cutS (cutD n)) st).1 + (l.foldl (cutS (cutD n)) st).2 + 1 ≤ lf := by
    intro l
    induction l with
    | nil => intro st h; exact h
    | cons x l ih =>
     intro st hst
     rw [List.foldl_cons]
     refine ih _ ?_
     unfold cutS
     split
     ·exact hst
     ·have := cutD_size n x st.2 (by omega)
      simp [sizes_append, D.sizes]; omega
   have := key d.kids ([], lf - 1) (by simp [D.sizes]; omega)
   simp only [D.size]; omega
theorem cut_lessF {P : Program} {f : FuncId} {args : List AV} {σ : Store} {oc : Nat} {n : Nat} {d : D} {lf : Nat} {k m : Int} {tx : ByteArray}
  (h : ACalls P f args σ fun r σ' => ∃ (out : List D) (lv : Nat), WVt σ.objs.length σ.toks.length 0 r (.pv (enc (.mk k m tx out))) ∧ σ'.cut σ.objs.length σ.toks.length = setC σ oc lv ∧ (D.mk k m tx out, lv) = cutD n d lf) : ACalls P f args σ fun r σ' => ∃ y, y = cutD n d lf ∧ r = .pv (enc y.1) ∧ σ' = setC σ oc (y.2 : Int) := by
 refine h.less ?_
 rintro r σ' ⟨out, lv, h1, h2, h3⟩
 refine ⟨_, _, _, h1, Nat.le_refl _, Nat.le_refl _, fun ob hob => ?_, ⟨_, h3, rfl, h2⟩⟩
 have h4 : σ'.objs.take σ.objs.length = (setC σ oc lv).objs := congrArg Store.objs h2
 rw [h4] at hob
 exact setC_mem hob _ _ _
theorem memB_symSs : ∀ (l : List D) (S : List ByteArray) (s : ByteArray), memB (symSs l S) s = (memB S s || memB (symSs l []) s) := by
 have key : ∀ d : D, ∀ (S : List ByteArray) (s : ByteArray), memB (symS d S) s = (memB S s || memB (symS d []) s) := by
  intro d
  induction d using D.ind with
  | _ k n t l ih =>
   have hl : ∀ (l : List D), (∀ x, x ∈ l → ∀ (S : List ByteArray) (s : ByteArray), memB (symS x S) s = (memB S s || memB (symS x []) s)) → ∀ (S : List ByteArray) (s : ByteArray), memB (symSs l S) s = (memB S s || memB (symSs l []) s) := by
    intro l
    induction l with
    | nil => intro _ S s; simp [symSs, memB]
    | cons x l ihl =>
     intro h S s
     have h1 := ihl fun y hy => h y (by simp [hy])
     rw [symSs, symSs, h1 (symS x S), h1 (symS x []), h x (by simp) S, Bool.or_assoc]
   intro S s
   rw [symS_eq, symS_eq]
   show memB (symSs l (if k = 2 then addS S t else S)) s = (memB S s || memB (symSs l (if k = 2 then addS [] t else [])) s)
   rw [hl l ih (if k = 2 then addS S t else S) s, hl l ih (if k = 2 then addS [] t else []) s]
   split
   ·rw [memB_add, memB_add]; simp [memB, Bool.or_assoc, Bool.or_comm, Bool.or_left_comm]
   ·simp [memB]
 intro l
 induction l with
 | nil => intro S s; simp [symSs, memB]
 | cons x l ih => intro S s; rw [symSs, symSs, ih (symS x S), ih (symS x []), key x S, Bool.or_assoc]
/-- Is a string a symbol in a datum? -/
def hasB (d : D) (s : ByteArray) : Bool := memB (symSs [d] []) s
theorem memB_symSs_any (l : List D) (s : ByteArray) : memB (symSs l []) s = l.any fun d => hasB d s := by
 induction l with
 | nil => rfl
 | cons x l ih =>
  rw [List.any_cons, ← ih]
  show memB (symSs l (symS x [])) s = _
  rw [memB_symSs]; rfl
theorem hasB_eq (d : D) (s : ByteArray) : hasB d s = ((d.kind == 2 && decide (d.text = s)) || d.kids.any fun k => hasB k s) := by
 unfold hasB
 show memB (symS d []) s = _
 rw [symS_eq, memB_symSs, memB_symSs_any]
 congr 1
 by_cases h : d.kind = 2
 ·rw [if_pos h, h, memB_add]
  have : decide (s = d.text) = decide (d.text = s) := by rw [decide_eq_decide]; exact eq_comm
  simp [memB, this]
 ·rw [if_neg h]
  have : (d.kind == 2) = false := by simpa using h
  rw [this]; rfl
theorem memB_frS (l : List D) (s : ByteArray) : memB (symSs l []) s = l.any fun d => hasB d s := memB_symSs_any l s
theorem wrap_u64 {n : Int} (h0 : 0 ≤ n) (h1 : n ≤ 18446744073709551615) : IntKind.u64.wrap n = n := by
 have e1 : (2 : Int) ^ 64 = 18446744073709551616 := by decide
 simp only [IntKind.wrap, IntKind.bits, IntKind.signed, e1]
 simp; omega
theorem wrap_u8 {n : Int} (h0 : 0 ≤ n) (h1 : n ≤ 255) : IntKind.u8.wrap n = n := by
 have e1 : (2 : Int) ^ 8 = 256 := by decide
 simp only [IntKind.wrap, IntKind.bits, IntKind.signed, e1]
 simp; omega
theorem pushAll_one (x : Int) : pushAll [x] = ⟨#[UInt8.ofNat x.toNat]⟩ := rfl
/-- A number in decimals, as the specification writes it. -/
theorem dec_small {n : Nat} (h : n < 10) : Lib.decDigits n = [UInt8.ofNat (48 + n)] := by rw [Lib.decDigits, dif_pos h]
theorem dec_big {n : Nat} (h : ¬ n < 10) : Lib.decDigits n = Lib.decDigits (n / 10) ++ [UInt8.ofNat (48 + n % 10)] := by rw [Lib.decDigits, dif_neg h]
def decB (n : Nat) : ByteArray := ⟨(Lib.decDigits n).toArray⟩
theorem decB_itoa (n : Nat) : decB n = itoaB (n : Int) := by
 unfold decB itoaB
 rw [itoa_nat (by omega)]; rfl
theorem decB_small {n : Nat} (h : n < 10) : decB n = ⟨#[UInt8.ofNat (48 + n)]⟩ := by unfold decB; rw [dec_small h]
theorem decB_big {n : Nat} (h : ¬ n < 10) : decB n = decB (n / 10) ++ ⟨#[UInt8.ofNat (48 + n % 10)]⟩ := by
 unfold decB
 rw [dec_big h]
 apply ByteArray.ext
 rw [ByteArray.data_append]
 simp
/-! ### forms -/
end Go.Aw

namespace Go.Aw
open Go
end Go.Aw

namespace Go.Aw
open Go
section
variable {P : Program} {ty : TyT} {σ0 : Store} {N : Nat} {s s' : St} {Q : Exit → St → Prop}
theorem awp_loop_headKL {c : Code} {ι : Type} (no nt nl : Nat) (keep : List Nat) (m : ι → List (Nat × AV)) (L : ι → List (List AV)) (σf : ι → Store) (I : ι → Prop) (μ : ι → Nat) (i0 : ι) (hi0 : I i0) (h0 : Weak σ0 no nt nl s (headK s keep (m i0) (L i0) (σf i0)))
  (round : ∀ i, I i → AWp P σ0 N c (Then (Next σ0 (fun i => headK s keep (m i) (L i) (σf i)) I μ i) Q) (headK s keep (m i) (L i) (σf i))) : AWp P σ0 N (.loop c) Q s :=
 awp_loop_fam (fun i => headK s keep (m i) (L i) (σf i)) I μ i0 hi0 h0 round

/-- A slice without room that stands in a private box may be appended to from now on. -/
theorem awp_adoptL {c : Code} (i j : Nat) {cs : List AV} {x : AV} {xs : List PV} (e : TypeId) (sz : Nat) (hL : s.L[i]? = some cs) (hx : cs[j]? = some x) (hf : x.fullElems = some xs) (hs : allSz sz xs = true)
  (k : AWp P σ0 N c Q ⟨s.T, s.L.set i (cs.set j (.acc xs s.σ.toks.length)), { s.σ with toks := s.σ.toks ++ [⟨xs.length, e, sz⟩] }⟩) : AWp P σ0 N c Q s := by
 rintro g0 w0 a w ⟨g, r⟩
 obtain ⟨i1, le1⟩ := r.2.1.adopt ⟨xs.length, e, sz⟩
 have i2 : Inv { g with tb := g.tb ++ [none] } { s.σ with toks := s.σ.toks ++ [⟨xs.length, e, sz⟩] } (s.L.set i (cs.set j (.acc xs s.σ.toks.length))) w := by
  refine ⟨i1.lio, by simp only [List.length_set]; exact i1.llam, i1.ltb, i1.glob, i1.nodup, i1.low, i1.kept, i1.base, i1.cells, i1.objs, fun o ds b hds hb => ?_, i1.toks⟩
  rw [List.getElem?_set] at hds
  split at hds
  ·subst_vars
   rw [if_pos (List.getElem?_eq_some_iff.1 hL).1] at hds
   cases hds
   obtain ⟨vs, e', h1, h2, h3, h4⟩ := r.2.1.priv _ cs b hL hb
   refine ⟨vs, e', h1, by rw [List.length_set]; exact h2, h3, fun n y v hy hv => ?_⟩
   rw [List.getElem?_set] at hy
   split at hy
   ·subst_vars
    split at hy
    ·cases hy
     exact (h4 _ x v hx hv).adopt hf r.2.1 ⟨xs.length, e, sz⟩ rfl (by simpa [allSz] using hs)
    ·cases hy
   ·exact (h4 n y v hy hv).mono le1 (fun _ _ h => h)
  ·exact i1.priv o ds b hds hb
 exact k g0 w0 a w ⟨_, r.later (σ' := { s.σ with toks := s.σ.toks ++ [⟨xs.length, e, sz⟩] }) (L' := s.L.set i (cs.set j (.acc xs s.σ.toks.length))) le1 (fun _ _ h => h) i2 rfl rfl (fun _ _ => rfl) (Nat.le_refl _) rfl rfl rfl⟩

def adoptL (s : St) (i j : Nat) (e : TypeId) (sz : Nat) : Option St :=
 match s.L[i]? with
 | some cs => match cs[j]? with
  | some x => match x.fullElems with
   | some xs => if allSz sz xs = true then some ⟨s.T, s.L.set i (cs.set j (.acc xs s.σ.toks.length)), { s.σ with toks := s.σ.toks ++ [⟨xs.length, e, sz⟩] }⟩ else none
   | none => none
  | none => none
 | none => none

theorem awp_adoptL' {c : Code} (i j : Nat) (e : TypeId) (sz : Nat) (h : adoptL s i j e sz = some s') (k : AWp P σ0 N c Q s') : AWp P σ0 N c Q s := by
 unfold adoptL at h
 split at h
 ·split at h
  ·split at h
   ·split at h
    ·cases h; exact awp_adoptL i j e sz ‹_› ‹_› ‹_› ‹_› k
    ·cases h
   ·cases h
  ·cases h
 ·cases h
end
attribute [go_sem] adoptL
theorem setC_with {σ : Store} {o : Nat} {v v' : Int} {T : List Tok} : setC { setC σ o v with toks := T } o v' = { setC σ o v' with toks := T } := by simp [setC]
theorem enc_mk (k n : Int) (t : ByteArray) (l : List D) : enc (.mk k n t l) = .agg [.int .i64 k, .int .i64 n, .str t, .slice (l.map enc)] := by rw [enc_eq]; rfl
end Go.Aw

namespace Go.Aw
open Go
/-- A variable of one cell. -/
theorem rp_var {B : Nat} {S : Nat → Nat → Prop} {w : World} {n : Nat} {p : PV} {v : Value} (hn : n < B) (hc : w.cell? ⟨n, 0, none⟩ = some v) (h1 : v.oneCell' = true) (hp : RP B S w p v) : RP B S w (.ptr [p]) (.pointer (some ⟨n, 0, none⟩)) := by
 refine RP.ptr (vs := [v]) rfl (fun i u hu => ?_) (fun i x u hx hu => ?_)
 ·match i with
  | 0 => simp at hu; subst hu; exact ⟨.inl hn, by simpa using hc, h1⟩
  | i + 1 => simp at hu
 ·match i with
  | 0 => simp at hx hu; subst hx hu; exact hp
  | i + 1 => simp at hx
theorem cell_lt {w : World} {n i : Nat} {v : Value} (h : w.cell? ⟨n, i, none⟩ = some v) : n < w.heap.size := by
 unfold World.cell? at h
 by_cases hlt : n < w.heap.size
 ·exact hlt
 ·rw [Array.getElem?_eq_none (by show w.heap.size ≤ n; omega)] at h; simp at h
end Go.Aw

namespace Go.Aw
open Go Go.ChangeShapes Go.WideShapes Go.ChangeAt Go.WideMaps Go.WideElems Go.RowKit
theorem nodup_inj {α β : Type} {f : α → β} : ∀ {l : List α}, (l.map f).Nodup → ∀ {a b : α}, a ∈ l → b ∈ l → f a = f b → a = b
 | [], _, a, b, ha, _, _ => by simp at ha
 | c :: l, h, a, b, ha, hb, e => by
  rw [List.map_cons, List.nodup_cons] at h
  rcases List.mem_cons.1 ha with rfl | ha1
  ·rcases List.mem_cons.1 hb with rfl | hb1
   ·rfl
   ·exact (h.1 (List.mem_map.2 ⟨b, hb1, e.symm⟩)).elim
  ·rcases List.mem_cons.1 hb with rfl | hb1
   ·exact (h.1 (List.mem_map.2 ⟨a, ha1, e⟩)).elim
   ·exact nodup_inj h.2 ha1 hb1 e
theorem find_perm {β : Type} {l1 l2 : List (ByteArray × β)} (h : l1.Perm l2) (hn : (l2.map (·.1)).Nodup) (x : ByteArray) : (l1.find? fun p => decide (p.1 = x)) = l2.find? fun p => decide (p.1 = x) := by
 cases h2 : l2.find? fun p => decide (p.1 = x) with
 | none =>
  rw [List.find?_eq_none] at h2 ⊢
  exact fun p hp => h2 p (h.mem_iff.1 hp)
 | some y =>
  have hy := List.find?_some h2
  have hym := List.mem_of_find?_eq_some h2
  cases h1 : l1.find? fun p => decide (p.1 = x) with
  | none =>
   rw [List.find?_eq_none] at h1
   exact absurd hy (h1 y (h.mem_iff.2 hym))
  | some z =>
   have hz := List.find?_some h1
   have hzm := h.mem_iff.1 (List.mem_of_find?_eq_some h1)
   simp only [decide_eq_true_eq] at hy hz
   rw [nodup_inj hn hzm hym (hz.trans hy.symm)]
section
variable {H : Type} {enc' : TypeId × Value → H} {P : Program} {w : World} {base : Nat} {sp : Nat → Bool} {held : Bool} {S : Nat → Nat → Prop} {t k e : TypeId} {fuel : Nat} {cs : List Value} {ps : List MemPlace}
end
end Go.Aw

namespace Go.Aw
open Go Go.ChangeShapes Go.WideShapes Go.ChangeAt Go.WideMaps Go.WideElems Go.RowKit
def wordsB : List (List UInt8 × Int) := wordL.map fun p => (p.1.data.toList, p.2)
def wdB (p : List UInt8 × Int) : ByteArray × Int := (⟨p.1.toArray⟩, p.2)
theorem wordsB_back : wordsB.map wdB = wordL := by
 unfold wordsB
 rw [List.map_map]
 conv => rhs; rw [← List.map_id wordL]
 refine List.map_congr_left fun p _ => ?_
 simp [wdB]
theorem wordL_nodup : (wordL.map (·.1)).Nodup := by decide +kernel
def wdO (l : List (List UInt8 × Int)) (h : l.Perm wordsB) : WdO where
 l := l.map wdB
 find := fun x => by
  rw [find_perm (h.map wdB) (by rw [wordsB_back]; exact wordL_nodup), wordsB_back]
  rfl
def litWd {H : Type} : DataW H → Int
 | .lit (.int _ a) => a
 | _ => 0
def datWd {H : Type} (p : List UInt8 × Int) : Lit × DataW H := (.string p.1, .lit (.int .i64 p.2))
section
variable {H : Type} {enc' : TypeId × Value → H} {P : Program} {w : World} {base : Nat} {sp : Nat → Bool} {held : Bool} {S : Nat → Nat → Prop} {t k e : TypeId} {fuel : Nat} {cs : List Value} {ps : List MemPlace}
theorem open_words (ht : P.underlying t = some (.map k e)) (hks : P.underlying k = some .string) (he : P.underlying e = some (.int .i64)) {names : List (List UInt8 × Int)}
  (h : DataW.trod enc' P w base sp held fuel t cs = some (.map (names.map datWd), ps)) (hp : names.Perm wordsB) :
  ∃ (b : Nat) (s : WdO), cs = [.map (some b)] ∧ RP w.heap.size S w (.map (wdK s) (wdV s)) (.map (some b)) := by
 rcases WideElems.open_map ht h with ⟨_, hx⟩ | ⟨b, es, clock, n, rfl, rfl, hb, _, F, hx⟩
 ·cases hx
 simp only [Prod.mk.injEq, DataW.map.injEq] at hx
 have hperm := foldr_insert_perm (es.toList.map (rg P k (elemAt enc' P w base sp held n e)))
 rw [← hx.1] at hperm
 have hl : ((es.toList.map (rg P k (elemAt enc' P w base sp held n e))).map fun y => (litStr y.1, litWd y.2)).Perm wordsB := by
  have h2 := (hperm.map fun y : Lit × DataW H => (litStr y.1, litWd y.2)).symm
  have e1 : ((names.map (datWd (H := H))).map fun y : Lit × DataW H => (litStr y.1, litWd y.2)) = names := by
   rw [List.map_map]
   conv => rhs; rw [← List.map_id names]
   refine List.map_congr_left fun p _ => ?_
   simp [datWd, litStr, litWd]
  rw [e1] at h2
  exact h2.trans hp
 refine ⟨b, wdO _ hl, rfl, ?_⟩
 have hent : ∀ x, x ∈ es.toList → ∃ (s : ByteArray) (c : Int), x.key = .string s ∧ x.val = .int .i64 c ∧ wdB (litStr (rg P k (elemAt enc' P w base sp held n e) x).1, litWd (rg P k (elemAt enc' P w base sp held n e) x).2) = (s, c) := by
  intro x hxm
  obtain ⟨y, hy⟩ := F.reads x hxm
  have hrg : rg P k (elemAt enc' P w base sp held n e) x = y := rg_of hy
  have hmem : y ∈ names.map (datWd (H := H)) := by
   have : y ∈ es.toList.map (rg P k (elemAt enc' P w base sp held n e)) := List.mem_map.2 ⟨x, hxm, hrg⟩
   exact hperm.mem_iff.2 this
  obtain ⟨s, _, hs⟩ := List.mem_map.1 hmem
  subst hs
  have hkey := rd_key hy
  obtain ⟨z, hz, hz2⟩ := rd_val hy
  rw [keyOf_string hks] at hkey
  have hk2 : ∃ s' : ByteArray, x.key = .string s' ∧ s'.data.toList = s.1 := by
   unfold mapKey at hkey
   rw [hks] at hkey
   split at hkey <;> simp_all [datWd]
  obtain ⟨s', h1, h2⟩ := hk2
  unfold elemAt at hz
  split at hz
  ·rename_i hfm
   obtain ⟨c, hcs, hz3, _⟩ := DataW.trod_int he hz
   rw [hz3] at hz2
   simp only [datWd, DataW.lit.injEq, Lit.int.injEq, true_and] at hz2
   refine ⟨s', s.2, h1, ?_, ?_⟩
   ·cases hv : x.val with
    | agg cs => rw [hv] at hfm; simp [Value.formed, he] at hfm
    | tuple cs => rw [hv] at hfm; simp [Value.formed] at hfm
    | _ => rw [hv] at hcs; simp [Value.cells] at hcs <;> first | (rw [hcs.1, hcs.2]; rw [hz2]) | (rw [hcs, hz2]) | simp [hcs, hz2]
   ·rw [hrg]
    simp [datWd, litStr, litWd, wdB, ← h2]
  ·cases hz
 have hblt : b < w.heap.size := by
  by_cases hlt : b < w.heap.size
  ·exact hlt
  ·rw [Array.getElem?_eq_none (by omega)] at hb; cases hb
 refine RP.map (es := es.toList) (clock := clock) hblt (by rw [hb]) (by simp [wdK, wdO]) (by simp [wdV, wdO]) (fun i x en hx hen => ?_) (fun i x en hx hen => ?_)
 ·obtain ⟨s, c, h1, _, h3⟩ := hent en (List.mem_of_getElem? hen)
  simp only [wdK, wdO, List.map_map, List.getElem?_map, hen, Option.map_some, Option.some.injEq] at hx
  subst hx
  simp only [Function.comp]
  rw [h3, h1]; exact .str
 ·obtain ⟨s, c, _, h2, h3⟩ := hent en (List.mem_of_getElem? hen)
  simp only [wdV, wdO, List.map_map, List.getElem?_map, hen, Option.map_some, Option.some.injEq] at hx
  subst hx
  simp only [Function.comp]
  rw [h3, h2]; exact .int
end
end Go.Aw

namespace Go.Aw
open Go Go.ChangeShapes Go.WideShapes Go.ChangeAt Go.WideMaps Go.WideElems Go.RowKit
section
variable {H : Type} {enc' : TypeId × Value → H} {P : Program} {w : World} {base : Nat} {spare : Nat → Bool} {held : Bool} {tD tK ti tn ts : TypeId} {S : Nat → Nat → Prop}
theorem open_data (T : DatumTy P tD tK ti tn ts) {fuel : Nat} {cs : List Value} {x : DataW H × List MemPlace} (h : DataW.trod enc' P w base spare held fuel tK cs = some x) :
  ∃ (l : List D) (v : Value), cs = [v] ∧ RP w.heap.size S w (.slice (l.map enc)) v := by
 rcases DataW.trod_slice T.k h with ⟨hv, _⟩ | ⟨a, len, cap, elems, rest, m', rfl, hv, _, hb, hlc, hcm, hel, hes, _⟩
 ·exact ⟨[], _, hv, .empty⟩
 ·rw [T.cD] at hes
  have hex : ∀ i, i < len → ∃ d : D, ∃ v' : Value, (∀ r, r < 4 → w.cell? ((a.add (i * 4)).add r) = ([.int .i64 d.kind, .int .i64 d.num, .string d.text, v'] : List Value)[r]?) ∧ v'.oneCell' = true ∧ RP w.heap.size S w (.slice (d.kids.map enc)) v' := by
   intro i hi
   have h1 := hes i hi
   have h2 : elems[i]? = some elems[i] := by simp [hel, hi]
   rw [h2] at h1
   obtain ⟨cs', hc, ht⟩ := Option.bind_eq_some_iff.1 h1
   obtain ⟨_, _, hc2⟩ := World.cells?_some hc
   obtain ⟨d, v', he, hone, hrp⟩ := open_datum (S := S) T m' cs' _ ht
   subst he
   exact ⟨d, v', hc2, hone, hrp⟩
  obtain ⟨l, hll, hlq⟩ := exists_list len hex
  refine ⟨l, _, hv, ?_⟩
  by_cases hlen0 : len = 0
  ·subst hlen0
   have : l = [] := List.eq_nil_of_length_eq_zero hll
   subst this
   exact .empty
  have hblk : a.block < w.heap.size := by
   obtain ⟨d, v', h1, _⟩ := hex 0 (by omega)
   have h2 := h1 0 (by omega)
   rw [Nat.zero_mul, Addr.add, if_pos rfl, Addr.add, if_pos rfl] at h2
   unfold World.cell? at h2
   by_cases hlt : a.block < w.heap.size
   ·exact hlt
   ·rw [Array.getElem?_eq_none (by omega)] at h2; simp at h2
  refine rp_slice_of (sz := 4) (by simp [hll]) hlc hblk (by omega) (fun x hx => ?_) (fun q x hx => ?_)
  ·obtain ⟨d, _, rfl⟩ := List.mem_map.1 hx
   rw [enc_cells]; rfl
  ·rw [List.getElem?_map] at hx
   obtain ⟨d, hd, rfl⟩ := Option.map_eq_some_iff.1 hx
   obtain ⟨v', h1, h2, h3⟩ := hlq q d hd
   refine ⟨[.int .i64 d.kind, .int .i64 d.num, .string d.text, v'], rfl, h1, fun u hu => ?_, fun r y u hy hu => ?_⟩
   ·simp only [List.mem_cons, List.not_mem_nil, or_false] at hu
    rcases hu with rfl | rfl | rfl | rfl <;> first | rfl | exact h2
   ·rw [enc_cells] at hy
    match r with
    | 0 => simp at hy hu; subst hy hu; exact .int
    | 1 => simp at hy hu; subst hy hu; exact .int
    | 2 => simp at hy hu; subst hy hu; exact .str
    | 3 => simp at hy hu; subst hy hu; exact h3
    | r + 4 => simp at hy
/-- The value itself, where its type is a slice. -/
theorem open_sliceV {r : Reach} {b0 : Nat} {t e : TypeId} {v u : Value} (ht : P.underlying t = some (.slice e)) (hok : Value.okWide P w r b0 t v) (h : v.cells.toList = [u]) : v = u := by
 obtain ⟨a, len, cap, rfl⟩ := okWide_slice ht hok
 simpa [Value.cells] using h
theorem open_intV {k : IntKind} {r : Reach} {b0 : Nat} {t : TypeId} {v : Value} {fuel : Nat} {x : DataW H × List MemPlace} (ht : P.underlying t = some (.int k)) (hok : Value.okWide P w r b0 t v) (h : DataW.trod enc' P w base spare held fuel t v.cells.toList = some x) : ∃ n, v = .int k n ∧ (Lit.int k n).wf = true := by
 obtain ⟨n, rfl⟩ := okWide_int ht hok
 obtain ⟨m, h1, _, h2⟩ := DataW.trod_int ht h
 have : n = m := by simpa [Value.cells] using h1
 subst this
 exact ⟨n, rfl, h2⟩
end
end Go.Aw

namespace Go.Aw
open Go
theorem wf_i64 {n : Int} (h : (Lit.int .i64 n).wf = true) : -9223372036854775808 ≤ n ∧ n ≤ 9223372036854775807 := by
 simp only [Lit.wf, Bool.and_eq_true, decide_eq_true_eq] at h
 exact h
end Go.Aw
