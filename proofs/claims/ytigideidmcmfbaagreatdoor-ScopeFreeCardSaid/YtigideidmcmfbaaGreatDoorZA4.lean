/- Part of the proof that the statement holds for every input that its row lets in: an own logic of abstract values over the given model, and laws of data and programs; no program is named in it. -/
import Derived.Test.YtigideidmcmfbaaGreatDoorZA3
import Derived.Test.YtigideidmcmfbaaGreatDoorZA2
import Derived.ProofKit
import Derived.LaidMore
import Derived.OpenShut
import Derived.Stop.Joined
import Derived.StringKeys
import Derived.Shelf.SlIter.Sorted
import Derived.Shelf.SlIter.Keys
import Derived.Shelf.SortM.Plain
import Derived.Shelf.SortM.SortNone
set_option linter.unusedSimpArgs false
set_option linter.unusedVariables false
namespace Go.Aw
open Go
section
variable {β : Type} {S : Type} (eb : β → PV)
/-- A scope: the names with what they are bound to, the nearest first. -/
def yL : List (ByteArray × β) → PV
 | [] => .nilp
 | q :: r => .ptr (.str q.1 :: (eb q.2).cells ++ [yL r])
theorem ydD {l : List (ByteArray × β)} {k : Nat} {x : ByteArray × β} (h : l[k]? = some x) : yL eb (l.drop k) = .ptr (.str x.1 :: (eb x.2).cells ++ [yL eb (l.drop (k + 1))]) := by
 obtain ⟨hk, rfl⟩ := List.getElem?_eq_some_iff.1 h
 rw [List.drop_eq_getElem_cons hk]; rfl
theorem yg0 (l : List (ByteArray × β)) (k : Nat) : (AV.pv (yL eb (l.drop k)) = .pv .nilp ∧ decide (k < l.length) = false) ∨ ∃ ps, AV.pv (yL eb (l.drop k)) = .pv (.ptr ps) ∧ decide (k < l.length) = true := by
 by_cases h : k < l.length
 ·refine .inr ⟨_, congrArg AV.pv (ydD eb (x := l[k]) (by simp [h])), by simpa using h⟩
 ·refine .inl ⟨?_, by simpa using h⟩
  rw [List.drop_of_length_le (by omega)]; rfl
@[go_sem] theorem ysf (l : List (ByteArray × β)) : (AV.pv (yL eb l)).cells = some [.pv (yL eb l)] := by cases l <;> rfl
@[go_sem] theorem yss (l : List (ByteArray × β)) : PV.nrm (yL eb l) = yL eb l := by cases l <;> rfl
@[go_sem] theorem ysU (l : List (ByteArray × β)) : (yL eb l).cells = [yL eb l] := by cases l <;> rfl
/-- What a name is bound to. -/
def YF (sc : List (ByteArray × β)) (x : ByteArray) : Option β := (sc.find? fun q => decide (q.1 = x)).map (·.2)
/-- A scope with names in it, the last one the nearest. -/
def yB (sc : List (ByteArray × β)) (ns : List ByteArray) (bs : List β) : List (ByteArray × β) := (ns.zip bs).reverse ++ sc
theorem ylm {ns : List ByteArray} {bs : List β} {sc : List (ByteArray × β)} {k : Nat} {x : ByteArray} {b : β} (h : ns[k]? = some x) (hb : bs[k]? = some b) :
  PV.ptr (.str x :: (eb b).cells ++ [yL eb (yB sc (ns.take k) (bs.take k))]) = yL eb (yB sc (ns.take (k + 1)) (bs.take (k + 1))) := by
 have hl : (ns.take k).length = (bs.take k).length := by
  have h1 := (List.getElem?_eq_some_iff.1 h).1
  have h2 := (List.getElem?_eq_some_iff.1 hb).1
  simp; omega
 unfold yB
 rw [yA h, yA hb, List.zip_append hl, List.reverse_append]; rfl

variable (nam : D → List Int → List ByteArray → Int → S → List β × S) (vari : D → List Int → Option β → S → S)
/-- The walk: what is bound at names, what is done at variables, in preorder. -/
def wk : D → List Int → List (ByteArray × β) → S → S :=
 scata (fun d rs p sc s =>
  if (yb d == 2) = true then vari d p (YF sc d.text) s
  else if (yb d == 5 || yb d == 9) = true then
   match rs with
   | [q] => let r := nam d p (ownS d) 0 s; q.2 (p ++ q.1.p) (yB sc (ownS d) r.1) r.2
   | _ => s
  else if (yb d == 6) = true then
   match rs with
   | [q, q'] => let r := nam d p (ownS d) 0 s; q'.2 (p ++ q'.1.p) (yB sc (ownS d) r.1) (q.2 (p ++ q.1.p) sc r.2)
   | _ => s
  else if (yb d == 7) = true then
   let r := nam d p (ownS d) 0 s
   let inn := yB sc (ownS d) r.1
   let s' := ((d1 d.kids).kids.zip rs).zipIdx.foldl (fun s q =>
    let r2 := nam d p (parS q.1.1) (yW (d1 d.kids).kids q.2) s
    q.1.2.2 (p ++ q.1.2.1.p) (yB inn (parS q.1.1) r2.1) r2.2) r.2
   match rs.getLast? with
   | some q => q.2 (p ++ q.1.p) inn s'
   | none => s'
  else rs.foldl (fun s q => q.2 (p ++ q.1.p) sc s) s)
theorem yfJ (d : D) (p : List Int) (sc : List (ByteArray × β)) (s : S) : wk nam vari d p sc s =
  if (yb d == 2) = true then vari d p (YF sc d.text) s
  else if (yb d == 5 || yb d == 9) = true then
   match (subs d).map fun q => (q.1, wk nam vari q.2) with
   | [q] => let r := nam d p (ownS d) 0 s; q.2 (p ++ q.1.p) (yB sc (ownS d) r.1) r.2
   | _ => s
  else if (yb d == 6) = true then
   match (subs d).map fun q => (q.1, wk nam vari q.2) with
   | [q, q'] => let r := nam d p (ownS d) 0 s; q'.2 (p ++ q'.1.p) (yB sc (ownS d) r.1) (q.2 (p ++ q.1.p) sc r.2)
   | _ => s
  else if (yb d == 7) = true then
   let r := nam d p (ownS d) 0 s
   let inn := yB sc (ownS d) r.1
   let s' := ((d1 d.kids).kids.zip ((subs d).map fun q => (q.1, wk nam vari q.2))).zipIdx.foldl (fun s q =>
    let r2 := nam d p (parS q.1.1) (yW (d1 d.kids).kids q.2) s
    q.1.2.2 (p ++ q.1.2.1.p) (yB inn (parS q.1.1) r2.1) r2.2) r.2
   match ((subs d).map fun q => (q.1, wk nam vari q.2)).getLast? with
   | some q => q.2 (p ++ q.1.p) inn s'
   | none => s'
  else ((subs d).map fun q => (q.1, wk nam vari q.2)).foldl (fun s q => q.2 (p ++ q.1.p) sc s) s := by
 show scata (β := List Int → List (ByteArray × β) → S → S) _ d p sc s = _
 rw [Zg]; rfl
theorem ygf {d : D} {p : List Int} {sc : List (ByteArray × β)} {s : S} (h : yb d = 2) : wk nam vari d p sc s = vari d p (YF sc d.text) s := by
 rw [yfJ, if_pos (by simpa using h)]
theorem yhO {d : D} {p : List Int} {sc : List (ByteArray × β)} {s : S} (h : yb d = 5 ∨ yb d = 9) :
  wk nam vari d p sc s = wk nam vari (d2 d.kids) (p ++ [2]) (yB sc (ownS d) (nam d p (ownS d) 0 s).1) (nam d p (ownS d) 0 s).2 := by
 rw [yfJ, if_neg (by simp; omega), if_pos (by simpa using h), y5 h]; rfl
theorem yiP {d : D} {p : List Int} {sc : List (ByteArray × β)} {s : S} (h : yb d = 6) :
  wk nam vari d p sc s = wk nam vari (d.kids.getD 3 dnone) (p ++ [3]) (yB sc (ownS d) (nam d p (ownS d) 0 s).1) (wk nam vari (d2 d.kids) (p ++ [2]) sc (nam d p (ownS d) 0 s).2) := by
 rw [yfJ, if_neg (by simp; omega), if_neg (by simp; omega), if_pos (by simpa using h), yQ h]; rfl
/-- What the first definitions of a rec leave. -/
def wkd (d : D) (p : List Int) (inn : List (ByteArray × β)) (k : Nat) (s : S) : S :=
 ((d1 d.kids).kids.take k).zipIdx.foldl (fun s q =>
  let r := nam d p (parS q.1) (yW (d1 d.kids).kids q.2) s
  wk nam vari (d2 q.1.kids) (p ++ [1, (q.2 : Int), 2]) (yB inn (parS q.1) r.1) r.2) s
theorem ycH {d : D} {p : List Int} {inn : List (ByteArray × β)} {k : Nat} {s : S} {x : D} (h : (d1 d.kids).kids[k]? = some x) :
  wkd nam vari d p inn (k + 1) s = wk nam vari (d2 x.kids) (p ++ [1, (k : Int), 2]) (yB inn (parS x) (nam d p (parS x) (yW (d1 d.kids).kids k) (wkd nam vari d p inn k s)).1) (nam d p (parS x) (yW (d1 d.kids).kids k) (wkd nam vari d p inn k s)).2 := by
 have hk := (List.getElem?_eq_some_iff.1 h).1
 unfold wkd
 rw [yA h, List.zipIdx_append, List.foldl_append]
 have e : ([x] : List D).zipIdx (0 + ((d1 d.kids).kids.take k).length) = [(x, k)] := by simp; omega
 rw [e]; rfl
theorem ycu {γ : Type} (f : D → Nat → γ) : ∀ (l : List D) (n : Nat) (r : List γ), (l.zip ((l.zipIdx n).map (fun q => f q.1 q.2) ++ r)) = (l.zipIdx n).map fun q => (q.1, f q.1 q.2)
 | [], n, r => by simp
 | x :: l, n, r => by simp [List.zipIdx_cons, ycu f l (n + 1) r]
theorem ybO {γ : Type} (g : D × Nat → γ) : ∀ (l : List D) (n : Nat), ((l.zipIdx n).map g).zipIdx n = (l.zipIdx n).map fun q => (g q, q.2)
 | [], n => by simp
 | x :: l, n => by simp [List.zipIdx_cons, ybO g l (n + 1)]
theorem yer {γ : Type} (f : Nat → D → γ) (l : List D) : mapI f l = (l.zipIdx 0).map fun q => f q.2 q.1 := by
 apply List.ext_getElem?
 intro i
 rw [zG, List.getElem?_map, List.getElem?_zipIdx]
 cases l[i]? <;> simp
theorem yh2 {d : D} {p : List Int} {sc : List (ByteArray × β)} {s : S} (h : yb d = 7) :
  wk nam vari d p sc s = wk nam vari (d2 d.kids) (p ++ [2]) (yB sc (ownS d) (nam d p (ownS d) 0 s).1) (wkd nam vari d p (yB sc (ownS d) (nam d p (ownS d) 0 s).1) (d1 d.kids).kids.length (nam d p (ownS d) 0 s).2) := by
 rw [yfJ, if_neg (by simp; omega), if_neg (by simp; omega), if_neg (by simp; omega), if_pos (by simpa using h), y9 h]
 simp only [List.map_append, List.map_cons, List.map_nil, List.getLast?_append, List.getLast?_singleton, Option.or_some, Option.some_or, yer, List.map_map]
 rw [show ((fun (q : Sub × D) => (q.1, wk nam vari q.2)) ∘ fun (q : D × Nat) => subR d q.2 q.1) = fun q => ((fun (x : D) (i : Nat) => ((subR d i x).1, wk nam vari (subR d i x).2)) q.1 q.2) from rfl]
 rw [ycu (fun (x : D) (i : Nat) => ((subR d i x).1, wk nam vari (subR d i x).2)), ybO, List.foldl_map]
 unfold wkd
 rw [List.take_length]; rfl
/-- What the first parts leave, where nothing is bound. -/
def wks (d : D) (p : List Int) (sc : List (ByteArray × β)) (k : Nat) (s : S) : S := ((subs d).take k).foldl (fun s q => wk nam vari q.2 (p ++ q.1.p) sc s) s
theorem ycQ {d : D} {p : List Int} {sc : List (ByteArray × β)} {k : Nat} {s : S} {q : Sub × D} (h : (subs d)[k]? = some q) : wks nam vari d p sc (k + 1) s = wk nam vari q.2 (p ++ q.1.p) sc (wks nam vari d p sc k s) := by
 unfold wks
 rw [yA h, List.foldl_append]; rfl
theorem ygh {d : D} {p : List Int} {sc : List (ByteArray × β)} {s : S} (h : yb d ≠ 2 ∧ yb d ≠ 5 ∧ yb d ≠ 9 ∧ yb d ≠ 6 ∧ yb d ≠ 7) : wks nam vari d p sc (subs d).length s = wk nam vari d p sc s := by
 rw [yfJ, if_neg (by simp; omega), if_neg (by simp; omega), if_neg (by simp; omega), if_neg (by simp; omega), List.foldl_map]
 unfold wks
 rw [List.take_length]
end
/-- The names that an expression has bound when the walk asks for them. -/
inductive NmOk (d : D) : List ByteArray → Int → Prop where
 | own (h : yb d = 5 ∨ yb d = 9 ∨ yb d = 6 ∨ yb d = 7) : NmOk d (ownS d) 0
 | par (h : yb d = 7) {k : Nat} {x : D} (hx : (d1 d.kids).kids[k]? = some x) : NmOk d (parS x) (yW (d1 d.kids).kids k)
theorem yfx {σ : Store} {U V : List (Nat × AObj)} {ks : List Nat} (hu : U.map (·.1) = ks) (hv : V.map (·.1) = ks) (hn : ks.Nodup) : updS (updS σ U) V = updS σ V :=
 yoN (by rw [hv]; exact hn) (by rw [hu, hv]; exact fun _ h => h)
theorem yif {β : Type} {l : List (ByteArray × β)} {x : ByteArray} {k : Nat} {y : ByteArray × β} (hn : NotYet (fun y : ByteArray × β => decide (y.1 = x)) l k) (hy : l[k]? = some y) (h : decide (y.1 = x) = true) : YF l x = some y.2 := by
 unfold YF
 obtain ⟨hk, he⟩ := List.getElem?_eq_some_iff.1 hy
 have : l.find? (fun q => decide (q.1 = x)) = some y := by
  rw [List.find?_eq_some_iff_getElem]
  refine ⟨h, k, hk, he, fun j hj => ?_⟩
  have := hn j l[j] hj (by simp)
  simpa using this
 rw [this]; rfl
theorem yjr {β : Type} {l : List (ByteArray × β)} {x : ByteArray} (h : l.any (fun y => decide (y.1 = x)) = false) : YF l x = none := by
 unfold YF
 have : l.find? (fun q => decide (q.1 = x)) = none := by
  rw [List.find?_eq_none]
  intro y hy
  rw [List.any_eq_false] at h
  exact h y hy
 rw [this]; rfl
theorem yaE {l : List D} {k : Nat} {x : D} (h : l[k]? = some x) : yW l (k + 1) = yW l k + ((parS x).length : Int) := by
 unfold yW parS
 rw [yA h, List.map_append, List.sum_append]
 simp; omega
theorem ycJ (l : List D) : yW l 0 = (l.length : Int) := by simp [yW]
theorem ykK (x : D) : (parS x).length ≤ x.size := by
 unfold parS
 rw [List.length_map]
 have h1 := D.kids_length_lt (d1 x.kids)
 by_cases h : 1 < x.kids.length
 ·have h2 : (d1 x.kids).size < x.size := D.size_kid_lt (YI (n := 1) h)
  omega
 ·have h2 : d1 x.kids = dnone := by
   show x.kids.getD 1 dnone = dnone
   rw [List.getD_eq_getElem?_getD, List.getElem?_eq_none (by omega)]; rfl
  rw [h2]; simp [dnone, D.kids]
theorem Zx (l : List D) : ∀ k, k ≤ l.length → 0 ≤ yW l k ∧ yW l k ≤ (l.length : Int) + (D.sizes l : Int) := by
 intro k hk
 have key : ∀ (l : List D), 0 ≤ (l.map fun x => ((d1 x.kids).kids.length : Int)).sum ∧ (l.map fun x => ((d1 x.kids).kids.length : Int)).sum ≤ (D.sizes l : Int) := by
  intro l
  induction l with
  | nil => simp [D.sizes]
  | cons x l ih =>
   have := ykK x
   unfold parS at this
   rw [List.length_map] at this
   simp only [List.map_cons, List.sum_cons, D.sizes]
   omega
 have h1 := key (l.take k)
 have h2 : ∀ (l : List D) (k : Nat), D.sizes (l.take k) ≤ D.sizes l := by
  intro l
  induction l with
  | nil => intro k; simp
  | cons x l ih =>
   intro k
   cases k with
   | zero => simp [D.sizes]
   | succ k => have := ih k; simp [D.sizes]; omega
 have h3 := h2 l k
 unfold yW
 omega
/-- How many names are bound in an expression. -/
def ncnt : D → Nat := scata (fun d rs => (ownS d).length + (if (yb d == 7) = true then ((d1 d.kids).kids.map fun x => (parS x).length).sum else 0) + (rs.map (·.2)).sum)
theorem yb6 (d : D) : ncnt d = (ownS d).length + (if (yb d == 7) = true then ((d1 d.kids).kids.map fun x => (parS x).length).sum else 0) + ((subs d).map fun q => ncnt q.2).sum := by
 show scata (β := Nat) _ d = _
 rw [Zg, List.map_map]; rfl
def ncd (d : D) (k : Nat) : Nat := (((d1 d.kids).kids.take k).map fun x => (parS x).length + ncnt (d2 x.kids)).sum
def ncs (d : D) (k : Nat) : Nat := (((subs d).take k).map fun q => ncnt q.2).sum
theorem yeY {d : D} {k : Nat} {x : D} (h : (d1 d.kids).kids[k]? = some x) : ncd d (k + 1) = ncd d k + (parS x).length + ncnt (d2 x.kids) := by
 unfold ncd
 rw [yA h, List.map_append, List.sum_append]; simp; omega
theorem ye2 {d : D} {k : Nat} {q : Sub × D} (h : (subs d)[k]? = some q) : ncs d (k + 1) = ncs d k + ncnt q.2 := by
 unfold ncs
 rw [yA h, List.map_append, List.sum_append]; simp
theorem yc3 {α : Type} (f : α → Nat) (l : List α) (k : Nat) : ((l.take k).map f).sum ≤ (l.map f).sum := by
 conv => rhs; rw [← List.take_append_drop k l, List.map_append, List.sum_append]
 omega
theorem yol (d : D) (k : Nat) : ncd d k ≤ ncd d (d1 d.kids).kids.length := by unfold ncd; rw [List.take_length]; exact yc3 _ _ _
theorem yov (d : D) (k : Nat) : ncs d k ≤ ncs d (subs d).length := by unfold ncs; rw [List.take_length]; exact yc3 _ _ _
theorem ygG {d : D} (h : yb d = 5 ∨ yb d = 9) : ncnt d = (ownS d).length + ncnt (d2 d.kids) := by
 rw [yb6, if_neg (by simp; omega), y5 h]; simp [subL]
theorem yiF {d : D} (h : yb d = 6) : ncnt d = (ownS d).length + ncnt (d2 d.kids) + ncnt (d.kids.getD 3 dnone) := by
 rw [yb6, if_neg (by simp; omega), yQ h]; simp [subL]; omega
theorem yjW {α : Type} (f g : α → Nat) (l : List α) : (l.map fun x => f x + g x).sum = (l.map f).sum + (l.map g).sum := by
 induction l with
 | nil => rfl
 | cons a l ih => simp [ih]; omega
theorem yo3 {α : Type} (f : Nat → α → Sub × D) (g : α → Nat) (hf : ∀ i x, ncnt (f i x).2 = g x) (l : List α) : ((mapI f l).map fun q => ncnt q.2).sum = (l.map g).sum := by
 have : ((mapI f l).map fun q => ncnt q.2) = l.map g := by
  apply List.ext_getElem?
  intro i
  rw [List.getElem?_map, zG, List.getElem?_map]
  cases l[i]? with
  | none => rfl
  | some x => simp [hf]
 rw [this]
theorem yij {d : D} (h : yb d = 7) : ncnt d = (ownS d).length + ncd d (d1 d.kids).kids.length + ncnt (d2 d.kids) := by
 rw [yb6, if_pos (by simpa using h), y9 h, List.map_append, List.sum_append, yo3 (subR d) (fun x => ncnt (d2 x.kids)) (fun _ _ => rfl)]
 unfold ncd
 rw [List.take_length, yjW]
 simp [subL]; omega
theorem ydT {d : D} (h : yb d ≠ 5 ∧ yb d ≠ 9 ∧ yb d ≠ 6 ∧ yb d ≠ 7) : ncnt d = ncs d (subs d).length := by
 rw [yb6, if_neg (by simp; omega)]
 have : ownS d = [] := by unfold ownS; rw [if_neg (by simp; omega), if_neg (by simp; omega), if_neg (by simp; omega), if_neg (by simp; omega)]
 rw [this]
 unfold ncs
 rw [List.take_length]; simp
/-- What is known of the functions that a walk calls, and of the objects that they change. -/
structure WkH (P : Program) (G : List (Nat × PV)) {β S : Type} (eb : β → PV) (zero : PV) (U : S → List (Nat × AObj)) (ks : List Nat) (X : List (Nat × AObj)) (ow : Nat) (nf : FuncId) (nc : List AV) (vf : FuncId) (vc : List AV)
  (nam : D → List Int → List ByteArray → Int → S → List β × S) (vari : D → List Int → Option β → S → S) (Ok : D → List Int → Prop) (Good : Nat → S → Prop) : Prop where
 hks : ∀ s, (U s).map (·.1) = ks
 hnd : ks.Nodup
 hX : ∀ q, q ∈ X → q.1 ∉ ks
 hw : (ow, .box [.func (.func nf) nc, .func (.func vf) vc]) ∈ X
 cn : Callable P nf
 cv : Callable P vf
 nln : AV.noLs nc = true
 nlv : AV.noLs vc = true
 hcl : ∀ s no nt, (∀ i, i ∈ ks → i < no) → ∀ q, q ∈ U s → q.2.clo no nt 0 = true
 hOk : ∀ d p q, Ok d p → q ∈ subs d → Ok q.2 (p ++ q.1.p)
 gl : ∀ d p ns n s, (nam d p ns n s).1.length = ns.length
 gn : ∀ d p ns n m s, Ok d p → Good m s → NmOk d ns n → Good (m + ns.length) (nam d p ns n s).2
 gv : ∀ d p b m s, Ok d p → Good m s → yb d = 2 → Good m (vari d p b s)
 hn : ∀ d p ns n m s σ, d.size ≤ 100000000 → p.length ≤ 400000000 → Ok d p → Good m s → m + ns.length ≤ 1000000000 → NmOk d ns n → σ.gl = G → HasU σ (U s) → HasU σ X →
  ACalls P nf ([.pv (enc d), .pv (wPV p), .pv (.slice (ns.map .str)), .pv (.int .i64 n)] ++ nc) σ fun r σ' => r = .pv (.slice ((nam d p ns n s).1.map eb)) ∧ σ' = updS σ (U (nam d p ns n s).2)
 hv : ∀ d p b m s σ, d.size ≤ 100000000 → p.length ≤ 400000000 → Ok d p → Good m s → yb d = 2 → σ.gl = G → HasU σ (U s) → HasU σ X →
  ACalls P vf ([.pv (enc d), .pv (wPV p), .pv ((b.map eb).getD zero), .pv (.bool b.isSome)] ++ vc) σ fun r σ' => r = .tuple [] ∧ σ' = updS σ (U (vari d p b s))
section
variable {P : Program} {G : List (Nat × PV)} {β S : Type} {eb : β → PV} {zero : PV} {U : S → List (Nat × AObj)} {ks : List Nat} {X : List (Nat × AObj)} {ow : Nat} {nf : FuncId} {nc : List AV} {vf : FuncId} {vc : List AV}
 {nam : D → List Int → List ByteArray → Int → S → List β × S} {vari : D → List Int → Option β → S → S} {Ok : D → List Int → Prop} {Good : Nat → S → Prop} (H : WkH P G eb zero U ks X ow nf nc vf vc nam vari Ok Good)
include H
theorem WkH.lt {σ : Store} {s : S} (h : HasU σ (U s)) {i : Nat} (hi : i ∈ ks) : i < σ.objs.length := by
 rw [← H.hks s] at hi
 obtain ⟨q, hq, rfl⟩ := List.mem_map.1 hi
 exact h.lt hq
theorem WkH.has {σ : Store} {s s' : S} (h : HasU σ (U s)) : HasU (updS σ (U s')) (U s') :=
 ycA (by rw [H.hks]; exact H.hnd) (fun q hq => H.lt h (by rw [← H.hks s']; exact List.mem_map.2 ⟨q, hq, rfl⟩))
theorem WkH.hasX {σ : Store} {s' : S} (h : HasU σ X) : HasU (updS σ (U s')) X := fun q hq => by
 rw [ycg (by rw [H.hks]; exact H.hX q hq)]; exact h q hq
theorem WkH.ne {σ : Store} {s' : S} {i : Nat} (h : i ∉ ks) : (updS σ (U s')).objs[i]? = σ.objs[i]? := ycg (by rw [H.hks]; exact h)
theorem WkH.upd {σ : Store} {s s' : S} : updS (updS σ (U s)) (U s') = updS σ (U s') := yfx (H.hks s) (H.hks s') H.hnd
theorem WkH.mask {σ : Store} {s' : S} {o : Nat} {ob : AObj} (h : (Z6 ks σ.objs)[o]? = some ob) (hb : ob ≠ .box []) : (updS σ (U s')).objs[o]? = some ob := by
 have := YB h hb
 rw [H.ne this.1]; exact this.2
theorem WkH.ltU {σ : Store} {s s' : S} (h : HasU σ (U s)) {q : Nat × AObj} (hq : q ∈ U s') : q.1 < σ.objs.length := H.lt h (by rw [← H.hks s']; exact List.mem_map.2 ⟨q, hq, rfl⟩)
theorem WkH.good : ∀ (d : D) (p : List Int) (sc : List (ByteArray × β)) (m : Nat) (s : S), Ok d p → Good m s → Good (m + ncnt d) (wk nam vari d p sc s) := by
 intro d
 induction d using D.indS with
 | h d ih =>
  intro p sc m s ho hg
  by_cases h2 : yb d = 2
  ·rw [ygf _ _ h2, ydT (by omega), show ncs d (subs d).length = 0 by rw [Yo (by omega)]; rfl]; exact H.gv _ _ _ _ _ ho hg h2
  by_cases h5 : yb d = 5 ∨ yb d = 9
  ·rw [yhO _ _ h5, ygG h5, ← Nat.add_assoc]
   have hq : subL d 2 (d2 d.kids) ∈ subs d := by rw [y5 h5]; simp
   exact ih _ hq _ _ _ _ (H.hOk _ _ _ ho hq) (H.gn _ _ _ _ _ _ ho hg (.own (h5.elim .inl fun h => .inr (.inl h))))
  by_cases h6 : yb d = 6
  ·rw [yiP _ _ h6, yiF h6, ← Nat.add_assoc, ← Nat.add_assoc]
   have hq : (⟨[2], []⟩, d2 d.kids) ∈ subs d := by rw [yQ h6]; simp
   have hq3 : subL d 3 (d.kids.getD 3 dnone) ∈ subs d := by rw [yQ h6]; simp
   exact ih _ hq3 _ _ _ _ (H.hOk _ _ _ ho hq3) (ih _ hq _ _ _ _ (H.hOk _ _ _ ho hq) (H.gn _ _ _ _ _ _ ho hg (.own (.inr (.inr (.inl h6))))))
  by_cases h7 : yb d = 7
  ·rw [yh2 _ _ h7, yij h7, ← Nat.add_assoc, ← Nat.add_assoc]
   have hq : subL d 2 (d2 d.kids) ∈ subs d := by rw [y9 h7]; simp
   refine ih _ hq _ _ _ _ (H.hOk _ _ _ ho hq) ?_
   have h0 := H.gn _ _ _ _ _ _ ho hg (NmOk.own (.inr (.inr (.inr h7))))
   generalize yB sc (ownS d) (nam d p (ownS d) 0 s).1 = inn
   generalize (nam d p (ownS d) 0 s).2 = s0 at h0
   generalize m + (ownS d).length = m0 at h0
   have key : ∀ k, k ≤ (d1 d.kids).kids.length → Good (m0 + ncd d k) (wkd nam vari d p inn k s0) := by
    intro k
    induction k with
    | zero => intro _; exact h0
    | succ k ihk =>
     intro hk
     have hx : (d1 d.kids).kids[k]? = some ((d1 d.kids).kids[k]'(by omega)) := by simp
     rw [ycH _ _ hx, yeY hx, ← Nat.add_assoc, ← Nat.add_assoc]
     have hqi := List.mem_of_getElem? (Yh h7 hx)
     exact ih _ hqi _ _ _ _ (H.hOk _ _ _ ho hqi) (H.gn _ _ _ _ _ _ ho (ihk (by omega)) (.par h7 hx))
   exact key _ (Nat.le_refl _)
  ·rw [← ygh nam vari (d := d) (p := p) (sc := sc) (s := s) ⟨h2, fun h => h5 (.inl h), fun h => h5 (.inr h), h6, h7⟩, ydT ⟨fun h => h5 (.inl h), fun h => h5 (.inr h), h6, h7⟩]
   have key : ∀ k, k ≤ (subs d).length → Good (m + ncs d k) (wks nam vari d p sc k s) := by
    intro k
    induction k with
    | zero => intro _; exact hg
    | succ k ihk =>
     intro hk
     have hx : (subs d)[k]? = some ((subs d)[k]'(by omega)) := by simp
     rw [ycQ _ _ hx, ye2 hx, ← Nat.add_assoc]
     have hqi := List.mem_of_getElem? hx
     exact ih _ hqi _ _ _ _ (H.hOk _ _ _ ho hqi) (ihk (by omega))
   exact key _ (Nat.le_refl _)
theorem WkH.goodD {d : D} {p : List Int} {inn : List (ByteArray × β)} {m0 : Nat} {s0 : S} (h7 : yb d = 7) (ho : Ok d p) (h0 : Good m0 s0) : ∀ k, k ≤ (d1 d.kids).kids.length → Good (m0 + ncd d k) (wkd nam vari d p inn k s0) := by
 intro k
 induction k with
 | zero => intro _; exact h0
 | succ k ihk =>
  intro hk
  have hx : (d1 d.kids).kids[k]? = some ((d1 d.kids).kids[k]'(by omega)) := by simp
  rw [ycH _ _ hx, yeY hx, ← Nat.add_assoc, ← Nat.add_assoc]
  have hqi := List.mem_of_getElem? (Yh h7 hx)
  exact H.good _ _ _ _ _ (H.hOk _ _ _ ho hqi) (H.gn _ _ _ _ _ _ ho (ihk (by omega)) (.par h7 hx))
theorem WkH.goodS {d : D} {p : List Int} {sc : List (ByteArray × β)} {m0 : Nat} {s0 : S} (ho : Ok d p) (h0 : Good m0 s0) : ∀ k, k ≤ (subs d).length → Good (m0 + ncs d k) (wks nam vari d p sc k s0) := by
 intro k
 induction k with
 | zero => intro _; exact h0
 | succ k ihk =>
  intro hk
  have hx : (subs d)[k]? = some ((subs d)[k]'(by omega)) := by simp
  rw [ycQ _ _ hx, ye2 hx, ← Nat.add_assoc]
  exact H.good _ _ _ _ _ (H.hOk _ _ _ ho (List.mem_of_getElem? hx)) (ihk (by omega))
end
theorem ycM {σ : Store} {V : List (Nat × AObj)} {ob : AObj} (h : HasU σ V) {i : Nat} (hi : i ∉ V.map (·.1)) : HasU { σ with objs := σ.objs.set i ob } V := fun q hq => by
 show (σ.objs.set i ob)[q.1]? = _
 rw [List.getElem?_set_ne (by rintro rfl; exact hi (List.mem_map.2 ⟨q, hq, rfl⟩))]; exact h q hq
/-- A round's end: the record is as it was. -/
theorem yiS {X : Store} {V : List (Nat × AObj)} {r : Nat} {a b : AObj} (h : r ∉ V.map (·.1)) (ha : X.objs[r]? = some a) : { updS { X with objs := X.objs.set r b } V with objs := ((updS { X with objs := X.objs.set r b } V).objs).set r a } = updS X V := by
 have key : (yM (X.objs.set r b) V).set r a = yM X.objs V := by
  apply List.ext_getElem?
  intro i
  by_cases hi : i = r
  ·subst hi
   have hl := (List.getElem?_eq_some_iff.1 ha).1
   rw [List.getElem?_set_self (by rw [zn]; simpa using hl), zm h, ha]
  ·rw [List.getElem?_set_ne (fun e => hi e.symm)]
   have : ∀ (V : List (Nat × AObj)) (l m : List AObj), l[i]? = m[i]? → l.length = m.length → (yM l V)[i]? = (yM m V)[i]? := by
    intro V
    induction V with
    | nil => intro l m h _; exact h
    | cons q V ih =>
     intro l m h hl
     rw [yM, yM]
     refine ih _ _ ?_ (by simp [hl])
     rw [List.getElem?_set, List.getElem?_set, h, hl]
   exact this V _ _ (by rw [List.getElem?_set_ne (fun e => hi e.symm)]) (by simp)
 show (⟨X.gl, (yM (X.objs.set r b) V).set r a, X.toks⟩ : Store) = ⟨X.gl, yM X.objs V, X.toks⟩
 rw [key]
theorem yha {τ σ : Store} {i : Nat} {ob : AObj} {Y : Store} (hi : σ.objs.length ≤ i) (h : τ.cut σ.objs.length σ.toks.length = Y) : (⟨τ.gl, τ.objs.set i ob, τ.toks⟩ : Store).cut σ.objs.length σ.toks.length = Y := by
 rw [← h]
 unfold Store.cut
 simp only
 rw [List.take_set_of_le hi]
/-- What lies behind is let go. -/
theorem ynV {P : Program} {f : FuncId} {args : List AV} {σ : Store} {r0 : AV} {V : List (Nat × AObj)} (hV : ∀ q, q ∈ V → q.2.clo σ.objs.length σ.toks.length 0 = true) (hr : cloT σ.objs.length σ.toks.length r0 = true) (hrn : WVt σ.objs.length σ.toks.length 0 r0 r0)
  (h : ACalls P f args σ fun r σ' => r = r0 ∧ σ'.cut σ.objs.length σ.toks.length = updS σ V) : ACalls P f args σ fun r σ' => r = r0 ∧ σ' = updS σ V := by
 refine h.less fun r σ' ⟨h1, h2⟩ => ⟨_, _, r0, by subst h1; exact hrn, Nat.le_refl _, Nat.le_refl _, fun ob hob => ?_, rfl, h2⟩
 have : σ'.objs.take σ.objs.length = (updS σ V).objs := congrArg Store.objs h2
 rw [this] at hob
 rcases ZN hob with h | ⟨q, hq, rfl⟩
 ·exact .inl h
 ·exact .inr (hV q hq)
theorem yb0 {P : Program} {f : FuncId} {args : List AV} {σ : Store} {r0 : AV} {V : List (Nat × AObj)} (hV : ∀ q, q ∈ V → q.2.clo σ.objs.length σ.toks.length 0 = true)
  (h : ACalls P f args σ fun r σ' => WVt σ.objs.length σ.toks.length 0 r r0 ∧ σ'.cut σ.objs.length σ.toks.length = updS σ V) : ACalls P f args σ fun r σ' => r = r0 ∧ σ' = updS σ V := by
 refine h.less fun r σ' ⟨h1, h2⟩ => ⟨_, _, r0, h1, Nat.le_refl _, Nat.le_refl _, fun ob hob => ?_, rfl, h2⟩
 have : σ'.objs.take σ.objs.length = (updS σ V).objs := congrArg Store.objs h2
 rw [this] at hob
 rcases ZN hob with h | ⟨q, hq, rfl⟩
 ·exact .inl h
 ·exact .inr (hV q hq)
end Go.Aw

namespace Go.Aw
open Go
/-! ### the shape of a datum -/
mutual
/-- A datum without its texts. -/
def D.er : D → D
 | .mk k n _ l => .mk k n ⟨#[]⟩ (D.ers l)
def D.ers : List D → List D
 | [] => []
 | d :: l => d.er :: D.ers l
end
theorem D.ers_map : ∀ l : List D, D.ers l = l.map D.er
 | [] => rfl
 | d :: l => by simp [D.ers, D.ers_map l]
theorem D.er_kids (d : D) : d.er.kids = d.kids.map D.er := by cases d; simp [D.er, D.kids, D.ers_map]
theorem D.sub_er : ∀ (p : List Int) (d : D), d.er.sub p = (d.sub p).map D.er
 | [], d => rfl
 | i :: p, d => by
  simp only [D.sub, D.er_kids]
  split
  ·rw [List.getElem?_map]
   cases d.kids[i.toNat]? with
   | none => rfl
   | some k => exact D.sub_er p k
  ·rfl
theorem D.sub_of_er {d e : D} {p : List Int} (h : d.er = e.er) {x : D} (hx : e.sub p = some x) : ∃ y, d.sub p = some y ∧ y.er = x.er := by
 have h1 := D.sub_er p d
 rw [h, D.sub_er p e, hx] at h1
 cases hd : d.sub p with
 | none => rw [hd] at h1; simp at h1
 | some y => rw [hd] at h1; simp at h1; exact ⟨y, rfl, h1.symm⟩
theorem D.er_setText : ∀ (p : List Int) (d : D) (s : ByteArray), (d.setText p s).er = d.er
 | [], .mk k n t l, s => rfl
 | i :: p, .mk k n t l, s => by
  simp only [D.setText]
  cases h : l[i.toNat]? with
  | none => rfl
  | some c =>
   simp only [D.er, D.ers_map, List.map_set, D.er_setText p c s]
   congr 1
   apply List.ext_getElem?
   intro j
   rw [List.getElem?_set]
   split
   ·subst_vars
    obtain ⟨h1, h2⟩ := List.getElem?_eq_some_iff.1 h
    simp [h1, h2]
   ·rfl
theorem zU : ∀ (d : D), msz d.er = msz d := by
 intro d
 induction d using D.ind with
 | _ k n t l ih =>
  rw [yf8, yf8, D.er_kids]
  show (if l.map D.er = [] then 0 else 1 + mszs (l.map D.er)) = if l = [] then 0 else 1 + mszs l
  have : ∀ l : List D, (∀ d, d ∈ l → msz d.er = msz d) → mszs (l.map D.er) = mszs l := by
   intro l
   induction l with
   | nil => intro _; rfl
   | cons d l ihl => intro h; simp only [List.map_cons, mszs]; rw [h d (by simp), ihl fun x hx => h x (by simp [hx])]
  rw [this l ih]
  simp
theorem yj3 (d : D) (p : List Int) (s : ByteArray) : msz (d.setText p s) = msz d := by rw [← zU, D.er_setText, zU]
theorem yix : ∀ {l : List D} {m i : Nat} {x : D}, l[i]? = some x → (lays m l)[i]? = some (lay (m + mszs (l.take i)) x)
 | [], m, i, x, h => by simp at h
 | d :: l, m, 0, x, h => by simp at h; subst h; simp [lays, mszs]
 | d :: l, m, i + 1, x, h => by
  simp only [List.getElem?_cons_succ] at h
  simp only [lays, List.getElem?_cons_succ, List.take_succ_cons, mszs]
  rw [yix h, Nat.add_assoc]
theorem yno : ∀ {l : List D} {m i : Nat}, l[i]? = none → (lays m l)[i]? = none := by
 intro l m i h
 rw [List.getElem?_eq_none_iff] at h ⊢
 rw [YW]; exact h
theorem yiy : ∀ {l : List D} {m i : Nat} {x y : D}, l[i]? = some x → msz y = msz x → lays m (l.set i y) = (lays m l).set i (lay (m + mszs (l.take i)) y)
 | [], m, i, x, y, h, _ => by simp at h
 | d :: l, m, 0, x, y, h, hs => by
  simp at h; subst h
  simp [lays, mszs, hs]
 | d :: l, m, i + 1, x, y, h, hs => by
  simp only [List.getElem?_cons_succ] at h
  simp only [List.set_cons_succ, lays, List.take_succ_cons, mszs]
  rw [yiy h hs, Nat.add_assoc]
/-- A text in a copy is the copy with the text. -/
theorem yeG : ∀ (p : List Int) (d : D) (m : Nat) (s : ByteArray), (lay m d).setText p s = lay m (d.setText p s)
 | [], .mk k n t l, m, s => rfl
 | i :: p, .mk k n t l, m, s => by
  simp only [lay, AD.setText, D.setText]
  cases h : l[i.toNat]? with
  | none => rw [yno h]; rfl
  | some c =>
   rw [yix h]
   simp only [lay]
   rw [yeG p c _ s, yiy h (yj3 c p s)]
theorem yd8 : ∀ (p : List Int) (d : D) (m : Nat) {x : D}, d.sub p = some x → ∃ u, (lay m d).sub p = some u ∧ u.dat = x := by
 intro p d m x h
 have := AD.sub_dat p (lay m d)
 rw [ycm, h] at this
 cases hu : (lay m d).sub p with
 | none => rw [hu] at this; simp at this
 | some u => rw [hu] at this; simp at this; exact ⟨u, rfl, this.symm⟩
/-! ### the steps along a path -/
theorem AD.sub_take {t u : AD} {p : List Int} (h : t.sub p = some u) {k : Nat} {i : Int} (hi : p[k]? = some i) (ob : Nat × Nat) :
  ∃ v c, t.sub (p.take k) = some v ∧ 0 ≤ i ∧ v.kids[i.toNat]? = some c ∧ i < (v.kids.length : Int) ∧ v.kv = .sl v.o 0 v.kids.length ∧ AD.loc ob t (p.take (k + 1)) = (v.o, i.toNat * 4) := by
 have hp : p = p.take k ++ i :: p.drop (k + 1) := by
  have hk := (List.getElem?_eq_some_iff.1 hi).1
  conv => lhs; rw [← List.take_append_drop k p]
  rw [List.drop_eq_getElem_cons hk, (List.getElem?_eq_some_iff.1 hi).2]
 rw [hp, AD.sub_append, Option.bind_eq_some_iff] at h
 obtain ⟨v, hv, h⟩ := h
 simp only [AD.sub] at h
 split at h
 ·rename_i h0
  obtain ⟨c, hc, _⟩ := Option.bind_eq_some_iff.1 h
  have hlt := (List.getElem?_eq_some_iff.1 hc).1
  refine ⟨v, c, hv, h0, hc, by omega, ?_, ?_⟩
  ·cases v with
   | mk k n tx o l =>
    simp only [AD.kids] at hlt
    cases l with
    | nil => simp at hlt
    | cons a l => rfl
  ·rw [yA hi]
   exact AD.loc_snoc _ _ _ _ _ _ hv hc
 ·cases h
theorem AD.loc_load {σ : Store} {t u : AD} {ob : Nat} {p : List Int} (h : HasU σ (Ye ob t)) (hu : t.sub p = some u) :
  ∃ cells rest, σ.objs[(AD.loc (ob, 0) t p).1]? = some (.arr cells) ∧ cells.drop ((AD.loc (ob, 0) t p).2 + 3) = u.kv :: rest := by
 rw [Yg] at h
 obtain ⟨cells, rest, h1, h2⟩ := AD.loc_at p t u ob [] [] h hu
 refine ⟨cells, rest, h1, ?_⟩
 rw [← List.drop_drop]
 simp only [List.length_nil] at h2
 rw [h2, AD.cells_eq]; rfl
/-! ### objects of several kinds -/
theorem yk2 {σ : Store} {A B : List (Nat × AObj)} (hn : ((A ++ B).map (·.1)).Nodup) (hl : ∀ q, q ∈ A → q.1 < σ.objs.length) (hB : HasU σ B) : updS σ A = updS σ (A ++ B) := by
 unfold updS
 congr 1
 rw [List.map_append] at hn
 have hd := List.nodup_append.1 hn
 refine (yaJ (by rw [List.map_append]; exact hn) (by rw [zn]) (fun q hq => ?_) (fun i hi => ?_)).symm
 ·rcases List.mem_append.1 hq with h | h
  ·exact Yz hd.1 h (hl q h)
  ·rw [zm (fun hm => hd.2.2 _ hm _ (List.mem_map.2 ⟨q, h, rfl⟩) rfl)]
   exact hB q h
 ·rw [List.map_append, List.mem_append, not_or] at hi
  rw [zm hi.1]
theorem yjL {σ : Store} {A B : List (Nat × AObj)} (hn : ((A ++ B).map (·.1)).Nodup) (hl : ∀ q, q ∈ B → q.1 < σ.objs.length) (hA : HasU σ A) : updS σ B = updS σ (A ++ B) := by
 unfold updS
 congr 1
 rw [List.map_append] at hn
 have hd := List.nodup_append.1 hn
 refine (yaJ (by rw [List.map_append]; exact hn) (by rw [zn]) (fun q hq => ?_) (fun i hi => ?_)).symm
 ·rcases List.mem_append.1 hq with h | h
  ·rw [zm (fun hm => hd.2.2 _ (List.mem_map.2 ⟨q, h, rfl⟩) _ hm rfl)]
   exact hA q h
  ·exact Yz hd.2.1 h (hl q h)
 ·rw [List.map_append, List.mem_append, not_or] at hi
  rw [zm hi.2]
theorem yhk {ob : Nat} {t : AD} {no nt : Nat} (h : ∀ i, i ∈ (Ye ob t).map (·.1) → i < no) : ∀ q, q ∈ Ye ob t → q.2.clo no nt 0 = true := by
 have hkv : ∀ (u : AD), (∀ q, q ∈ u.arrs → q.1 < no) → AV.clos no nt 0 u.cells = true := by
  intro u hu
  cases u with
  | mk k n tx o l =>
   cases l with
   | nil => rfl
   | cons a l =>
    have := hu (o, .arr ((a :: l).flatMap AD.cells)) (by simp [AD.arrs, Zv])
    simp only [AD.cells, kvOf, AV.clos, AV.clo, Bool.and_true, Bool.true_and, decide_eq_true_eq]
    exact this
 have hrow : ∀ (u : AD), (∀ q, q ∈ u.arrs → q.1 < no) → ∀ q, q ∈ u.arrs → q.2.clo no nt 0 = true := by
  intro u
  induction u using AD.ind with
  | _ k n tx o l ih =>
   intro hu q hq
   rw [AD.arrs, AD.arrss_flat] at hq hu
   rcases List.mem_append.1 hq with hq | hq
   ·cases l with
    | nil => simp [Zv] at hq
    | cons a l =>
     simp only [Zv, List.mem_singleton] at hq
     subst hq
     simp only [AObj.clo, AV.clos_iff]
     intro x hx
     obtain ⟨c, hc, hx⟩ := List.mem_flatMap.1 hx
     exact AV.clos_iff.1 (hkv c fun q hq2 => hu q (List.mem_append_right _ (List.mem_flatMap.2 ⟨c, hc, hq2⟩))) x hx
   ·obtain ⟨c, hc, hq⟩ := List.mem_flatMap.1 hq
    exact ih c hc (fun q hq2 => hu q (List.mem_append_right _ (List.mem_flatMap.2 ⟨c, hc, hq2⟩))) q hq
 intro q hq
 have ht : ∀ q, q ∈ t.arrs → q.1 < no := fun q hq => h q.1 (List.mem_map.2 ⟨q, List.mem_cons_of_mem _ hq, rfl⟩)
 rcases List.mem_cons.1 hq with rfl | hq
 ·exact hkv t ht
 ·exact hrow t ht q hq
/-! ### places of expressions and names -/
theorem D.sub_subs {d : D} {q : Sub × D} (h : q ∈ subs d) : d.sub q.1.p = some q.2 := by
 have one : ∀ (l : List D) (i : Nat) (x : D), l[i]? = some x → ∀ k n t, D.sub (.mk k n t l) [(i : Int)] = some x := by
  intro l i x hx k n t
  simp only [D.sub, D.kids]
  rw [if_pos (by omega), Int.toNat_natCast, hx]; rfl
 obtain ⟨k, n, t, l⟩ := d
 generalize hd : D.mk k n t l = d at *
 have hl : d.kids = l := by rw [← hd]; rfl
 have hone : ∀ (i : Nat) (x : D), l[i]? = some x → d.sub [(i : Int)] = some x := fun i x hx => by rw [← hd]; exact one l i x hx _ _ _
 by_cases h4 : yb d = 4 ∨ yb d = 8
 ·rw [zZ h4] at h
  obtain ⟨i, x, hx, rfl⟩ := YJ h
  rw [List.getElem?_drop, hl] at hx
  have := hone (1 + i) x hx
  rw [show sub1 i x = (⟨[((1 + i : Nat) : Int)], []⟩, x) by unfold sub1; congr 3; omega]
  exact this
 by_cases h5 : yb d = 5 ∨ yb d = 9
 ·rw [y5 h5, List.mem_singleton] at h
  subst h
  have hlen := (y4 d).1 (h5.elim .inl fun h => .inr (.inl h))
  rw [hl] at hlen
  have := hone 2 (d2 d.kids) (by rw [hl]; unfold d2; rw [List.getD_eq_getElem?_getD, List.getElem?_eq_getElem (by omega)]; rfl)
  exact this
 by_cases h6 : yb d = 6
 ·rw [yQ h6] at h
  have hlen := (y4 d).2.1 h6
  rw [hl] at hlen
  simp only [List.mem_cons, List.not_mem_nil, or_false] at h
  rcases h with rfl | rfl
  ·exact hone 2 (d2 d.kids) (by rw [hl]; unfold d2; rw [List.getD_eq_getElem?_getD, List.getElem?_eq_getElem (by omega)]; rfl)
  ·exact hone 3 (d.kids.getD 3 dnone) (by rw [hl]; rw [List.getD_eq_getElem?_getD, List.getElem?_eq_getElem (by omega)]; rfl)
 by_cases h7 : yb d = 7
 ·have hlen := (y4 d).1 (.inr (.inr h7))
  rw [hl] at hlen
  rw [y9 h7, List.mem_append, List.mem_singleton] at h
  rcases h with h | rfl
  ·obtain ⟨i, x, hx, rfl⟩ := YJ h
   have h3 := (y4 d).2.2 h7 x (List.mem_of_getElem? hx)
   have hd1 : l[1]? = some (d1 d.kids) := by rw [hl]; unfold d1; rw [List.getD_eq_getElem?_getD, List.getElem?_eq_getElem (by omega)]; rfl
   have hd2 : x.kids[2]? = some (d2 x.kids) := by unfold d2; rw [List.getD_eq_getElem?_getD, List.getElem?_eq_getElem (by omega)]; rfl
   show d.sub [1, (i : Int), 2] = some (d2 x.kids)
   have e1 := hone 1 _ hd1
   rw [show ([1, (i : Int), 2] : List Int) = [((1 : Nat) : Int)] ++ [(i : Int), 2] from rfl, D.sub_append, e1]
   simp only [Option.bind_some, D.sub]
   rw [if_pos (by omega), Int.toNat_natCast, hx]
   simp only [Option.bind_some]
   rw [if_pos (by decide), show (2 : Int).toNat = 2 from rfl, hd2]; rfl
  ·exact hone 2 (d2 d.kids) (by rw [hl]; unfold d2; rw [List.getD_eq_getElem?_getD, List.getElem?_eq_getElem (by omega)]; rfl)
 by_cases h10 : yb d = 10
 ·rw [YH h10] at h
  obtain ⟨i, x, hx, rfl⟩ := YJ h
  rw [hl] at hx
  exact hone i x hx
 ·exfalso
  have hs : subs d = [] := Yo (by cases shape d <;> omega)
  rw [hs] at h; simp at h
/-- The rest of the place of a name that a definition binds. -/
def whrL : List D → Int → Nat → List Int
 | [], n, _ => [1, n]
 | x :: l, n, i => if ((parS x).length : Int) ≤ n then whrL l (n - ((parS x).length : Int)) (i + 1) else [1, (i : Int), 1, n]
/-- The place of one of the names that an expression binds. -/
def zk (d : D) (n : Int) : List Int :=
 if (yb d == 6) = true then [1] else if (yb d == 7) = true then (if n < ((d1 d.kids).kids.length : Int) then [1, n, 0] else whrL (d1 d.kids).kids (n - ((d1 d.kids).kids.length : Int)) 0) else [1, n]
theorem yi9 : ∀ {l : List D} {k : Nat} {x : D} {j : Nat} (i : Nat), l[k]? = some x → j < (parS x).length → whrL l ((((l.take k).map fun x => ((d1 x.kids).kids.length : Int)).sum) + (j : Int)) i = [1, ((i + k : Nat) : Int), 1, (j : Int)]
 | [], k, x, j, i, h, _ => by simp at h
 | y :: l, 0, x, j, i, h, hj => by
  simp at h; subst h
  simp only [whrL, List.take_zero, List.map_nil, List.sum_nil, Int.zero_add, Nat.add_zero]
  rw [if_neg (by omega)]
 | y :: l, k + 1, x, j, i, h, hj => by
  simp only [List.getElem?_cons_succ] at h
  have ih := yi9 (i + 1) h hj
  simp only [whrL, List.take_succ_cons, List.map_cons, List.sum_cons]
  have hp : ((parS y).length : Int) = ((d1 y.kids).kids.length : Int) := by unfold parS; rw [List.length_map]
  have hnn : 0 ≤ ((l.take k).map fun x => ((d1 x.kids).kids.length : Int)).sum := by
   generalize l.take k = r
   induction r with
   | nil => simp
   | cons z r ih => simp only [List.map_cons, List.sum_cons]; omega
  rw [if_pos (by rw [hp]; omega), hp, show ((d1 y.kids).kids.length : Int) + ((l.take k).map fun x => ((d1 x.kids).kids.length : Int)).sum + (j : Int) - ((d1 y.kids).kids.length : Int) = ((l.take k).map fun x => ((d1 x.kids).kids.length : Int)).sum + (j : Int) by omega, ih]
  congr 2; omega
/-- At such a place the name stands. -/
theorem ymt {d : D} {ns : List ByteArray} {n : Int} (h : NmOk d ns n) {j : Nat} {x : ByteArray} (hj : ns[j]? = some x) : 1 ≤ (zk d (n + (j : Int))).length ∧ (zk d (n + (j : Int))).length ≤ 4 ∧ ∃ u, d.sub (zk d (n + (j : Int))) = some u ∧ u.text = x := by
 have hone : ∀ (d : D) (i : Nat) (x : D), d.kids[i]? = some x → ∀ p, d.sub ((i : Int) :: p) = x.sub p := by
  intro d i x hx p
  simp only [D.sub]
  rw [if_pos (by omega), Int.toNat_natCast, hx]; rfl
 have hd1 : 1 < d.kids.length → d.kids[1]? = some (d1 d.kids) := fun h => by unfold d1; rw [List.getD_eq_getElem?_getD, List.getElem?_eq_getElem h]; rfl
 have h1 : ∀ p, 1 < d.kids.length → d.sub (1 :: p) = (d1 d.kids).sub p := fun p h => hone d 1 _ (hd1 h) p
 cases h with
 | own hk =>
  rw [Int.zero_add]
  rcases hk with hk | hk | hk | hk
  ·have hl := (y4 d).1 (.inl hk)
   have ho : ownS d = (d1 d.kids).kids.map D.text := by unfold ownS; rw [hk]; rfl
   rw [ho, List.getElem?_map] at hj
   obtain ⟨u, hu, rfl⟩ := Option.map_eq_some_iff.1 hj
   have hw : zk d (j : Int) = [1, (j : Int)] := by unfold zk; rw [hk]; rfl
   rw [hw]
   exact ⟨by simp, by simp, u, by rw [h1 _ (by omega), hone _ _ _ hu]; rfl, rfl⟩
  ·have hl := (y4 d).1 (.inr (.inl hk))
   have ho : ownS d = (d1 d.kids).kids.map D.text := by unfold ownS; rw [hk]; rfl
   rw [ho, List.getElem?_map] at hj
   obtain ⟨u, hu, rfl⟩ := Option.map_eq_some_iff.1 hj
   have hw : zk d (j : Int) = [1, (j : Int)] := by unfold zk; rw [hk]; rfl
   rw [hw]
   exact ⟨by simp, by simp, u, by rw [h1 _ (by omega), hone _ _ _ hu]; rfl, rfl⟩
  ·have hl := (y4 d).2.1 hk
   have ho : ownS d = [(d1 d.kids).text] := by unfold ownS; rw [hk]; rfl
   rw [ho] at hj
   have hw : zk d (j : Int) = [1] := by unfold zk; rw [hk]; rfl
   rw [hw]
   refine ⟨by simp, by simp, d1 d.kids, by rw [h1 _ (by omega)]; rfl, ?_⟩
   match j, hj with
   | 0, hj => simpa using hj
  ·have hl := (y4 d).1 (.inr (.inr hk))
   have ho : ownS d = (d1 d.kids).kids.map fun x => x.head.text := by unfold ownS; rw [hk]; rfl
   rw [ho, List.getElem?_map] at hj
   obtain ⟨y, hy, rfl⟩ := Option.map_eq_some_iff.1 hj
   have h3 := (y4 d).2.2 hk y (List.mem_of_getElem? hy)
   have hjl := (List.getElem?_eq_some_iff.1 hy).1
   have hw : zk d (j : Int) = [1, (j : Int), 0] := by
    unfold zk
    rw [hk, if_neg (by decide), if_pos (by decide), if_pos (by omega)]
   rw [hw]
   have hy0 : y.kids[0]? = some (y.kids[0]'(by omega)) := by simp
   refine ⟨by simp, by simp, y.head, ?_, rfl⟩
   rw [h1 _ (by omega), hone _ _ _ hy, show ([0] : List Int) = ((0 : Nat) : Int) :: [] from rfl, hone _ _ _ hy0, ya0 hy0]; rfl
 | @par hk k y hy =>
  have hl := (y4 d).1 (.inr (.inr hk))
  have h3 := (y4 d).2.2 hk y (List.mem_of_getElem? hy)
  have hjl : j < (parS y).length := (List.getElem?_eq_some_iff.1 hj).1
  have hw : zk d (yW (d1 d.kids).kids k + (j : Int)) = [1, (k : Int), 1, (j : Int)] := by
   have h4 := Zx (d1 d.kids).kids k (Nat.le_of_lt (List.getElem?_eq_some_iff.1 hy).1)
   have hnn : 0 ≤ (((d1 d.kids).kids.take k).map fun x => ((d1 x.kids).kids.length : Int)).sum := by
    generalize (d1 d.kids).kids.take k = r
    induction r with
    | nil => simp
    | cons z r ih => simp only [List.map_cons, List.sum_cons]; omega
   unfold zk
   rw [hk, if_neg (by decide), if_pos (by decide), if_neg (by unfold yW; omega)]
   have := yi9 0 hy hjl
   rw [Nat.zero_add] at this
   rw [← this]
   congr 1
   unfold yW; omega
  rw [hw]
  have hy1 : y.kids[1]? = some (d1 y.kids) := by unfold d1; rw [List.getD_eq_getElem?_getD, List.getElem?_eq_getElem (by omega)]; rfl
  unfold parS at hj
  rw [List.getElem?_map] at hj
  obtain ⟨u, hu, rfl⟩ := Option.map_eq_some_iff.1 hj
  refine ⟨by simp, by simp, u, ?_, rfl⟩
  rw [h1 _ (by omega), hone _ _ _ hy, show ([1, (j : Int)] : List Int) = ((1 : Nat) : Int) :: [(j : Int)] from rfl, hone _ _ _ hy1, hone _ _ _ hu]; rfl
/-! ### the renaming -/
section
variable {St : Type} (to : List Int → Int → ByteArray → St → ByteArray × St)
def yb1 (d : D) (p : List Int) (n : Int) (acc : List ByteArray × (D × St)) (q : ByteArray × Nat) : List ByteArray × (D × St) :=
 (acc.1 ++ [(to p (n + (q.2 : Int)) q.1 acc.2.2).1], (acc.2.1.setText (p ++ zk d (n + (q.2 : Int))) (to p (n + (q.2 : Int)) q.1 acc.2.2).1, (to p (n + (q.2 : Int)) q.1 acc.2.2).2))
/-- New names, one after the other, each written in its place. -/
def nmK (d : D) (p : List Int) (ns : List ByteArray) (n : Int) (s : D × St) (k : Nat) : List ByteArray × (D × St) := ((ns.take k).zipIdx).foldl (yb1 to d p n) ([], s)
def namR (d : D) (p : List Int) (ns : List ByteArray) (n : Int) (s : D × St) : List ByteArray × (D × St) := nmK to d p ns n s ns.length
def varR (_d : D) (p : List Int) (b : Option ByteArray) (s : D × St) : D × St := match b with
 | some x => (s.1.setText p x, s.2)
 | none => s
theorem yji (d : D) (p : List Int) (ns : List ByteArray) (n : Int) (s : D × St) : nmK to d p ns n s 0 = ([], s) := rfl
theorem ycp {d : D} {p : List Int} {ns : List ByteArray} {n : Int} {s : D × St} {k : Nat} {x : ByteArray} (h : ns[k]? = some x) : nmK to d p ns n s (k + 1) = yb1 to d p n (nmK to d p ns n s k) (x, k) := by
 have hk := (List.getElem?_eq_some_iff.1 h).1
 unfold nmK
 rw [yA h, List.zipIdx_append, List.foldl_append]
 have e : ([x] : List ByteArray).zipIdx (0 + (ns.take k).length) = [(x, k)] := by simp; omega
 rw [e]; rfl
theorem ykf (d : D) (p : List Int) (ns : List ByteArray) (n : Int) (s : D × St) : ∀ k, k ≤ ns.length → (nmK to d p ns n s k).1.length = k := by
 intro k
 induction k with
 | zero => intro _; rfl
 | succ k ih =>
  intro hk
  have hx : ns[k]? = some (ns[k]'(by omega)) := by simp
  rw [ycp to hx, yb1]
  simp [ih (by omega)]
theorem yfE (d : D) (p : List Int) (ns : List ByteArray) (n : Int) (s : D × St) : ∀ k, k ≤ ns.length → (nmK to d p ns n s k).2.1.er = s.1.er := by
 intro k
 induction k with
 | zero => intro _; rfl
 | succ k ih =>
  intro hk
  have hx : ns[k]? = some (ns[k]'(by omega)) := by simp
  rw [ycp to hx, yb1]
  simp only [D.er_setText]
  exact ih (by omega)
theorem ykr (d : D) (p : List Int) (ns : List ByteArray) (n : Int) (s : D × St) (GT : Nat → St → Prop) (hg : ∀ p i x m s, GT m s → GT (m + 1) (to p i x s).2) (m : Nat) (h : GT m s.2) : ∀ k, k ≤ ns.length → GT (m + k) (nmK to d p ns n s k).2.2 := by
 intro k
 induction k with
 | zero => intro _; exact h
 | succ k ih =>
  intro hk
  have hx : ns[k]? = some (ns[k]'(by omega)) := by simp
  rw [ycp to hx, yb1]
  exact hg _ _ _ _ _ (ih (by omega))
end
/-- What stands in a path is small. -/
theorem ydZ : ∀ {p : List Int} {e d : D}, e.size ≤ 100000000 → e.sub p = some d → ∀ j, j ∈ p → 0 ≤ j ∧ j ≤ 1000000000
 | [], e, d, _, _, j, hj => by simp at hj
 | i :: p, e, d, he, h, j, hj => by
  simp only [D.sub] at h
  split at h
  ·rename_i hi
   cases hx : e.kids[i.toNat]? with
   | none => rw [hx] at h; cases h
   | some x =>
    rw [hx] at h
    simp only [Option.bind_some] at h
    have hm := List.mem_of_getElem? hx
    have h1 := D.size_kid_lt hm
    have h2 := (List.getElem?_eq_some_iff.1 hx).1
    have h3 := D.kids_length_lt e
    rcases List.mem_cons.1 hj with rfl | hj
    ·exact ⟨hi, by omega⟩
    ·exact ydZ (by omega) h j hj
  ·cases h
/-- What is known of the function that makes new names. -/
structure ToH (P : Program) (G : List (Nat × PV)) {St : Type} (ms : St → List (Nat × AObj)) (mk : List Nat) (X : List (Nat × AObj)) (tf : FuncId) (tc : List AV) (to : List Int → Int → ByteArray → St → ByteArray × St) (GT : Nat → St → Prop) : Prop where
 hmk : ∀ s, (ms s).map (·.1) = mk
 hnd : mk.Nodup
 hX : ∀ q, q ∈ X → q.1 ∉ mk
 ct : Callable P tf
 nlt : AV.noLs tc = true
 hcl : ∀ s no nt, (∀ i, i ∈ mk → i < no) → ∀ q, q ∈ ms s → q.2.clo no nt 0 = true
 gt : ∀ p i x m s, GT m s → GT (m + 1) (to p i x s).2
 ht : ∀ p i x m s σ, p.length ≤ 400000000 → (∀ j, j ∈ p → 0 ≤ j ∧ j ≤ 1000000000) → 0 ≤ i → i ≤ 1000000000 → GT m s → m + 1 ≤ 1000000000 → σ.gl = G → HasU σ (ms s) → HasU σ X →
  ACalls P tf ([.pv (wPV p), .pv (.int .i64 i), .pv (.str x)] ++ tc) σ fun r σ' => r = .pv (.str (to p i x s).1) ∧ σ' = updS σ (ms (to p i x s).2)
/-- The copy, and what the new names are made of. -/
def UR {St : Type} (ob m0 : Nat) (ms : St → List (Nat × AObj)) (s : D × St) : List (Nat × AObj) := Ye ob (lay m0 s.1) ++ ms s.2
theorem ycn {St : Type} {ob m0 : Nat} {ms : St → List (Nat × AObj)} {mk : List Nat} (h : ∀ s, (ms s).map (·.1) = mk) (s : D × St) : (UR ob m0 ms s).map (·.1) = ob :: List.range' m0 (msz s.1) ++ mk := by
 unfold UR
 rw [List.map_append, h, Z3, YG]
section
variable {St : Type} {ob m0 : Nat} {ms : St → List (Nat × AObj)} {mk : List Nat} {σ : Store} {s : D × St}
theorem ygA (h : HasU σ (UR ob m0 ms s)) : HasU σ (Ye ob (lay m0 s.1)) := fun q hq => h q (List.mem_append_left _ hq)
theorem yeZ (hmk : ∀ s, (ms s).map (·.1) = mk) (hn : (ob :: List.range' m0 (msz s.1) ++ mk).Nodup) (t : D) (st : St) (he : t.er = s.1.er) : ((UR ob m0 ms (t, st)).map (·.1)).Nodup := by
 rw [ycn hmk]
 show (ob :: List.range' m0 (msz t) ++ mk).Nodup
 rw [← zU, he, zU]; exact hn
theorem ypq (hmk : ∀ s, (ms s).map (·.1) = mk) (h : HasU σ (UR ob m0 ms s)) (t : D) (st : St) (he : t.er = s.1.er) : ∀ q, q ∈ UR ob m0 ms (t, st) → q.1 < σ.objs.length := by
 intro q hq
 have hm : q.1 ∈ (UR ob m0 ms (t, st)).map (·.1) := List.mem_map.2 ⟨q, hq, rfl⟩
 have e : (UR ob m0 ms (t, st)).map (·.1) = (UR ob m0 ms s).map (·.1) := by
  rw [ycn hmk, ycn hmk]
  show ob :: List.range' m0 (msz t) ++ mk = _
  rw [← zU, he, zU]
 rw [e] at hm
 obtain ⟨q', h', e'⟩ := List.mem_map.1 hm
 rw [← e']; exact h.lt h'
/-- Something else than the copy turns. -/
theorem yom (hmk : ∀ s, (ms s).map (·.1) = mk) (hn : (ob :: List.range' m0 (msz s.1) ++ mk).Nodup) (h : HasU σ (UR ob m0 ms s)) (st : St) : updS σ (ms st) = updS σ (UR ob m0 ms (s.1, st)) :=
 yjL (yeZ hmk hn s.1 st rfl) (fun q hq => ypq hmk h s.1 st rfl q (List.mem_append_right _ hq)) (fun q hq => h q (List.mem_append_left _ hq))
/-- The copy turns. -/
theorem ypW (hmk : ∀ s, (ms s).map (·.1) = mk) (hn : (ob :: List.range' m0 (msz s.1) ++ mk).Nodup) (h : HasU σ (UR ob m0 ms s)) (t : D) (he : t.er = s.1.er) : updS σ (Ye ob (lay m0 t)) = updS σ (UR ob m0 ms (t, s.2)) :=
 yk2 (yeZ hmk hn t s.2 he) (fun q hq => ypq hmk h t s.2 he q (List.mem_append_left _ hq)) (fun q hq => h q (List.mem_append_right _ hq))
end
section
variable {P : Program} {ty : TyT} {σ0 : Store} {N : Nat} {s : St} {o : Oper} {ops : Array Oper} {os : List Oper} {K : St → Prop} {σ : Store}
/-- A text is written at a place of the copy. -/
theorem ydg {Sg : Type} {ob m0 : Nat} {ms : Sg → List (Nat × AObj)} {mk : List Nat} {x : D × Sg} {p : List Int} {u : D} {b : ByteArray} (hmk : ∀ s, (ms s).map (·.1) = mk) (hn : (ob :: List.range' m0 (msz x.1) ++ mk).Nodup) (hU : HasU s.σ (UR ob m0 ms x)) (hu : x.1.sub p = some u)
  (hty : TyOk P ty) {t : TypeId} {pp y : Operand} {ti : TyI} (hg : o.guard = none) (ho : o.op = .store t pp y) (hdst : o.dst = none) (hti : ty t = some ti) (h1 : ti.size = 1)
  (hp : ev s pp = .ptr (AD.loc (ob, 0) (lay m0 x.1) p).1 ((AD.loc (ob, 0) (lay m0 x.1) p).2 + 2)) (hy : ev s y = .pv (.str b)) (k : yz P σ0 N ops os K ⟨s.T, s.L, updS s.σ (UR ob m0 ms (x.1.setText p b, x.2))⟩) : yz P σ0 N ops (o :: os) K s := by
 obtain ⟨v, hv, _⟩ := yd8 p x.1 m0 hu
 have hUt := ygA hU
 have hnt := yeZ hmk hn x.1 x.2 rfl
 unfold UR at hnt
 rw [List.map_append] at hnt
 have hw := AD.write b p (lay m0 x.1) v ob [] [] (by rw [← Yg]; exact hUt) (by rw [← Yg]; exact (List.nodup_append.1 hnt).1) hv
 obtain ⟨cells, k1, k2, k3⟩ := hw
 simp only [List.length_nil] at k1 k2 k3
 refine YO hg (yaG hty (i := (AD.loc (ob, 0) (lay m0 x.1) p).1) (off := (AD.loc (ob, 0) (lay m0 x.1) p).2 + 2) (cs := cells) (ds := [.pv (.str b)]) ho hp hti k1 (by rw [hy]; rfl) rfl (by rw [h1]; rfl) (by simp; omega) (by rw [hdst]; rfl) ?_)
 rw [hdst]
 simp only [St.put]
 rw [k3, ← Yg, yeG, ypW hmk hn hU _ (D.er_setText _ _ _)]
 exact k
end
theorem ylf {d : D} {ns : List ByteArray} {n : Int} (h : NmOk d ns n) : 0 ≤ n ∧ n + (ns.length : Int) ≤ 2 * (d.size : Int) := by
 cases h with
 | own hk => have := ya8 d; omega
 | @par hk k x hx =>
  have hl := (y4 d).1 (.inr (.inr hk))
  have h1 := Zx (d1 d.kids).kids k (Nat.le_of_lt (List.getElem?_eq_some_iff.1 hx).1)
  have h2 := Zx (d1 d.kids).kids (k + 1) (by have := (List.getElem?_eq_some_iff.1 hx).1; omega)
  have h3 := yaE hx
  have hm : d1 d.kids ∈ d.kids := YI (n := 1) (by omega)
  have h4 := D.size_kid_lt hm
  have h5 := D.kids_length_lt (d1 d.kids)
  have h6 := D.size_kids (d1 d.kids)
  omega
theorem ylU {g : List (Nat × PV)} {tk : List Tok} {σ : Store} {U V : List (Nat × AObj)} {ks : List Nat} (hu : U.map (·.1) = ks) (hv : V.map (·.1) = ks) (hn : ks.Nodup) : updS ⟨g, (updS σ U).objs, tk⟩ V = updS ⟨g, σ.objs, tk⟩ V := by
 unfold updS
 simp only
 rw [yaD (by rw [hv]; exact hn) (by rw [hu, hv]; exact fun _ h => h)]
/-- What a renaming knows: the datum, where the copy lies, the boxes of the functions. -/
structure RnH (P : Program) (G : List (Nat × PV)) {Sg : Type} (atf : FuncId) (e : D) (ob m0 oto oat : Nat) (XR : List (Nat × AObj)) (ms : Sg → List (Nat × AObj)) (mk : List Nat) (X : List (Nat × AObj)) (tf : FuncId) (tc : List AV) (to : List Int → Int → ByteArray → Sg → ByteArray × Sg) (GT : Nat → Sg → Prop) : Prop where
 T : ToH P G ms mk X tf tc to GT
 hn : (ob :: List.range' m0 (msz e) ++ mk).Nodup
 hX : ∀ q, q ∈ XR → q.1 ∉ ob :: List.range' m0 (msz e) ++ mk
 hXX : ∀ q, q ∈ X → q ∈ XR
 hto : (oto, .box [.func (.func tf) tc]) ∈ XR
 hat : (oat, .box [.func (.func atf) [.ptr ob 0]]) ∈ XR
 hes : e.size ≤ 100000000
section
variable {P : Program} {G : List (Nat × PV)} {Sg : Type} {atf : FuncId} {e : D} {ob m0 oto oat : Nat} {XR : List (Nat × AObj)} {ms : Sg → List (Nat × AObj)} {mk : List Nat} {X : List (Nat × AObj)} {tf : FuncId} {tc : List AV} {to : List Int → Int → ByteArray → Sg → ByteArray × Sg} {GT : Nat → Sg → Prop} (H : RnH P G atf e ob m0 oto oat XR ms mk X tf tc to GT)
include H
theorem RnH.keys {t : D} (he : t.er = e.er) (st : Sg) : (UR ob m0 ms (t, st)).map (·.1) = ob :: List.range' m0 (msz e) ++ mk := by
 rw [ycn H.T.hmk]
 show ob :: List.range' m0 (msz t) ++ mk = _
 rw [← zU, he, zU]
theorem RnH.nd {t : D} (he : t.er = e.er) : (ob :: List.range' m0 (msz t) ++ mk).Nodup := by rw [← zU, he, zU]; exact H.hn
theorem RnH.keys' {s : D × Sg} (he : s.1.er = e.er) : (UR ob m0 ms s).map (·.1) = ob :: List.range' m0 (msz e) ++ mk := H.keys he s.2
theorem RnH.lt {σ : Store} {s : D × Sg} (he : s.1.er = e.er) (h : HasU σ (UR ob m0 ms s)) {i : Nat} (hi : i ∈ ob :: List.range' m0 (msz e) ++ mk) : i < σ.objs.length := by
 rw [← H.keys' he] at hi
 obtain ⟨q, hq, rfl⟩ := List.mem_map.1 hi
 exact h.lt hq
theorem RnH.has {σ : Store} {s s' : D × Sg} (he : s.1.er = e.er) (he' : s'.1.er = e.er) (h : HasU σ (UR ob m0 ms s)) : HasU (updS σ (UR ob m0 ms s')) (UR ob m0 ms s') :=
 ycA (by rw [H.keys' he']; exact H.hn) (fun q hq => H.lt he h (by rw [← H.keys' he']; exact List.mem_map.2 ⟨q, hq, rfl⟩))
theorem RnH.ne {σ : Store} {s' : D × Sg} (he' : s'.1.er = e.er) {i : Nat} (h : i ∉ ob :: List.range' m0 (msz e) ++ mk) : (updS σ (UR ob m0 ms s')).objs[i]? = σ.objs[i]? := ycg (by rw [H.keys' he']; exact h)
theorem RnH.hasX {σ : Store} {s' : D × Sg} (he' : s'.1.er = e.er) (h : HasU σ XR) : HasU (updS σ (UR ob m0 ms s')) XR := fun q hq => by
 rw [H.ne he' (H.hX q hq)]; exact h q hq
theorem RnH.clo {s : D × Sg} (he : s.1.er = e.er) {no nt : Nat} (h : ∀ i, i ∈ ob :: List.range' m0 (msz e) ++ mk → i < no) : ∀ q, q ∈ UR ob m0 ms s → q.2.clo no nt 0 = true := by
 have hk := H.keys' he
 unfold UR at hk
 rw [List.map_append, H.T.hmk] at hk
 have hk := List.append_cancel_right hk
 intro q hq
 rcases List.mem_append.1 hq with hq | hq
 ·refine yhk (fun i hi => h i ?_) q hq
  rw [hk] at hi; exact List.mem_append_left _ hi
 ·exact H.T.hcl _ _ _ (fun i hi => h i (List.mem_append_right _ hi)) q hq
/-- After a new name was made. -/
theorem RnH.afterTo {σ : Store} {s0 s : D × Sg} (he : s0.1.er = e.er) (hs : s.1.er = e.er) (h : HasU σ (UR ob m0 ms s0)) (st : Sg) : updS (updS σ (UR ob m0 ms s)) (ms st) = updS σ (UR ob m0 ms (s.1, st)) := by
 rw [yom H.T.hmk (H.nd hs) (H.has he hs h) st]
 exact yfx (H.keys' hs) (H.keys hs st) H.hn
end
open Classical in
/-- The same, whatever the shape. -/
noncomputable def UE {Sg : Type} (e : D) (ob m0 : Nat) (ms : Sg → List (Nat × AObj)) (s : D × Sg) : List (Nat × AObj) := if s.1.er = e.er then UR ob m0 ms s else UR ob m0 ms (e, s.2)
theorem yd0 {Sg : Type} {e : D} {ob m0 : Nat} {ms : Sg → List (Nat × AObj)} {s : D × Sg} (h : s.1.er = e.er) : UE e ob m0 ms s = UR ob m0 ms s := by unfold UE; rw [if_pos h]
/-- What a renaming leaves. -/
def zT {Sg : Type} (to : List Int → Int → ByteArray → Sg → ByteArray × Sg) (e : D) (st : Sg) : D × Sg := wk (namR to) varR e [] [] (e, st)
section
variable {P : Program} {G : List (Nat × PV)} {Sg : Type} {atf nf vf : FuncId} {e : D} {ob m0 oto oat ow : Nat} {XR : List (Nat × AObj)} {ms : Sg → List (Nat × AObj)} {mk : List Nat} {X : List (Nat × AObj)} {tf : FuncId} {tc : List AV} {to : List Int → Int → ByteArray → Sg → ByteArray × Sg} {GT : Nat → Sg → Prop} (H : RnH P G atf e ob m0 oto oat XR ms mk X tf tc to GT)
include H
theorem RnH.walk (hw : (ow, .box [.func (.func nf) [.ptr oto 0, .ptr oat 0], .func (.func vf) [.ptr oat 0]]) ∈ XR) (cn : Callable P nf) (cv : Callable P vf)
  (hn : ∀ (d : D) (p : List Int) (ns : List ByteArray) (n : Int) (m : Nat) (s : D × Sg) (σ : Store), d.size ≤ 100000000 → p.length ≤ 400000000 → s.1.er = e.er → GT m s.2 → m + ns.length ≤ 1000000000 → e.sub p = some d → NmOk d ns n → σ.gl = G → HasU σ (UR ob m0 ms s) → HasU σ XR →
   ACalls P nf [.pv (enc d), .pv (wPV p), .pv (.slice (ns.map .str)), .pv (.int .i64 n), .ptr oto 0, .ptr oat 0] σ fun r σ' => r = .pv (.slice ((namR to d p ns n s).1.map .str)) ∧ σ' = updS σ (UR ob m0 ms (namR to d p ns n s).2))
  (hv : ∀ (d : D) (p : List Int) (s : D × Sg) (σ : Store), d.size ≤ 100000000 → p.length ≤ 400000000 → s.1.er = e.er → e.sub p = some d → σ.gl = G → HasU σ (UR ob m0 ms s) → HasU σ XR → ∀ b : Option ByteArray,
   ACalls P vf [.pv (enc d), .pv (wPV p), .pv ((b.map PV.str).getD (.str ⟨#[]⟩)), .pv (.bool b.isSome), .ptr oat 0] σ fun r σ' => r = .tuple [] ∧ σ' = updS σ (UR ob m0 ms (varR d p b s))) :
  WkH P G PV.str (.str ⟨#[]⟩) (UE e ob m0 ms) (ob :: List.range' m0 (msz e) ++ mk) XR ow nf [.ptr oto 0, .ptr oat 0] vf [.ptr oat 0] (namR to) varR (fun d p => e.sub p = some d) (fun m s => s.1.er = e.er ∧ GT m s.2) := by
 have hvE : ∀ (d : D) (p : List Int) (b : Option ByteArray) (s : D × Sg), s.1.er = e.er → (varR d p b s).1.er = e.er := by
  intro d p b s hs
  cases b with
  | none => exact hs
  | some b => exact (D.er_setText _ _ _).trans hs
 have hnE : ∀ (d : D) (p : List Int) (ns : List ByteArray) (n : Int) (s : D × Sg), s.1.er = e.er → (namR to d p ns n s).2.1.er = e.er := fun d p ns n s hs => (yfE to d p ns n s ns.length (Nat.le_refl _)).trans hs
 refine ⟨fun s => ?_, H.hn, H.hX, hw, cn, cv, rfl, rfl, fun s no nt h q hq => ?_, fun d p q ho hq => ?_, fun d p ns n s => ykf to d p ns n s ns.length (Nat.le_refl _), fun d p ns n m s ho hg hm => ⟨hnE d p ns n s hg.1, ykr to d p ns n s GT H.T.gt m hg.2 ns.length (Nat.le_refl _)⟩, fun d p b m s ho hg h2 => ⟨hvE d p b s hg.1, ?_⟩, fun d p ns n m s σ h1 h2 ho hg hm hnm hgl hU hX => ?_, fun d p b m s σ h1 h2 ho hg hk hgl hU hX => ?_⟩
 ·unfold UE
  split
  ·exact H.keys' ‹_›
  ·exact H.keys' (s := (e, s.2)) rfl
 ·unfold UE at hq
  split at hq
  ·exact H.clo ‹_› h q hq
  ·exact H.clo (s := (e, s.2)) rfl h q hq
 ·rw [D.sub_append, ho]; exact D.sub_subs hq
 ·cases b <;> exact hg.2
 ·rw [yd0 hg.1] at hU
  rw [yd0 (hnE d p ns n s hg.1)]
  exact hn d p ns n m s σ h1 h2 hg.1 hg.2 hm ho hnm hgl hU hX
 ·rw [yd0 hg.1] at hU
  rw [yd0 (hvE d p b s hg.1)]
  exact hv d p s σ h1 h2 hg.1 ho hgl hU hX b
end
/-- Another state that tells less. -/
theorem ycS {ρ : Option Nat} {P : Program} {σ0 : Store} {N : Nat} {s : St} {Q : Exit → St → Prop} {c : Code} (nl : Nat) (s2 : St) (h : WeakJL nl s s2) (k : AWpR ρ P σ0 N c Q s2) : AWpR ρ P σ0 N c Q s := by
 rintro g0 w0 a w ⟨g, r⟩
 exact k g0 w0 a w (h.rel r)
theorem yiV {α : Type} (l : List α) (x y : α) : (l ++ [x]).set l.length y = l ++ [y] := by simp
/-- Objects up to a number are kept, what lies behind is let go. -/
theorem ACalls.keepTo {P : Program} {f : FuncId} {args : List AV} {σ : Store} {r0 : AV} {Y : Store} (no : Nat) (h0 : σ.objs.length ≤ no) (hc : ∀ ob, ob ∈ Y.objs → ob ∈ σ.objs ∨ ob.clo no σ.toks.length 0 = true)
  (h : ACalls P f args σ fun r σ' => WVt no σ.toks.length 0 r r0 ∧ σ'.cut no σ.toks.length = Y) : ACalls P f args σ fun r σ' => r = r0 ∧ σ' = Y := by
 refine h.less fun r σ' ⟨h1, h2⟩ => ⟨_, _, r0, h1, h0, Nat.le_refl _, fun ob hob => ?_, rfl, h2⟩
 have : σ'.objs.take no = Y.objs := congrArg Store.objs h2
 rw [this] at hob
 exact hc ob hob
theorem yaP {α : Type} {X Y : List α} {b : α} {n : Nat} (h : X.length = n) : (X ++ b :: Y)[n]? = some b := by subst h; simp
theorem yqm {σ : Store} {A : List AObj} {bx : AObj} {e : D} {Sg : Type} {ms : Sg → List (Nat × AObj)} {mk : List Nat} (hA : A = σ.objs ++ bx :: lobjs (σ.objs.length + 1) e) (hmk : ∀ s, (ms s).map (·.1) = mk) (hnd : mk.Nodup) {st : Sg} (hms : HasU σ (ms st)) (B : List AObj) (tk : List Tok) (s : D × Sg) (hs : s.1.er = e.er) (C : List AV) :
  updS ⟨σ.gl, A ++ AObj.arr C :: B, tk⟩ (UR A.length (σ.objs.length + 1) ms s) = ⟨σ.gl, ((updS σ (ms s.2)).objs ++ bx :: lobjs (σ.objs.length + 1) s.1) ++ AObj.arr (lay (σ.objs.length + 1) s.1).cells :: B, tk⟩ := by
 have hl : A.length = σ.objs.length + 1 + msz e := by rw [hA]; simp [Zf]; omega
 have hsz : msz s.1 = msz e := by rw [← zU, hs, zU]
 have hlt : ∀ i, i ∈ mk → i < σ.objs.length := by
  intro i hi
  rw [← hmk st] at hi
  obtain ⟨q, hq, rfl⟩ := List.mem_map.1 hi
  exact hms.lt hq
 have hk := ycn (ob := A.length) (m0 := σ.objs.length + 1) hmk s
 have hn : (A.length :: List.range' (σ.objs.length + 1) (msz s.1) ++ mk).Nodup := by
  refine List.nodup_append.2 ⟨List.nodup_cons.2 ⟨?_, List.nodup_range'⟩, hnd, ?_⟩
  ·rw [List.mem_range'_1]; omega
  ·intro a ha b hb e2
   subst e2
   have := hlt a hb
   rcases List.mem_cons.1 ha with h | h
   ·omega
   ·rw [List.mem_range'_1] at h; omega
 have hlen : (updS σ (ms s.2)).objs.length = σ.objs.length := ye1
 have hl2 : ((updS σ (ms s.2)).objs ++ bx :: lobjs (σ.objs.length + 1) s.1).length = A.length := by simp [hlen, Zf, hl, hsz]; omega
 have key : yM (A ++ AObj.arr C :: B) (UR A.length (σ.objs.length + 1) ms s) = ((updS σ (ms s.2)).objs ++ bx :: lobjs (σ.objs.length + 1) s.1) ++ AObj.arr (lay (σ.objs.length + 1) s.1).cells :: B := by
  refine yaJ (by rw [hk]; exact hn) (by rw [List.length_append, List.length_append, hl2]; rfl) (fun q hq => ?_) (fun i hi => ?_)
  ·unfold UR at hq
   rcases List.mem_append.1 hq with hq | hq
   ·rcases List.mem_cons.1 hq with rfl | hq
    ·rw [List.getElem?_append_right (by rw [hl2]; exact Nat.le_refl _), hl2]; simp
    ·have h3 := ybX (σ := ⟨σ.gl, ((updS σ (ms s.2)).objs ++ bx :: lobjs (σ.objs.length + 1) s.1) ++ AObj.arr (lay (σ.objs.length + 1) s.1).cells :: B, tk⟩) (A := (updS σ (ms s.2)).objs ++ [bx]) (C := AObj.arr (lay (σ.objs.length + 1) s.1).cells :: B) (d := s.1) (by simp [hlen])
     have e3 : ((updS σ (ms s.2)).objs ++ [bx]).length = σ.objs.length + 1 := by simp [hlen]
     rw [e3] at h3
     exact h3 q hq
   ·have hqm : q.1 ∈ mk := by rw [← hmk s.2]; exact List.mem_map.2 ⟨q, hq, rfl⟩
    have := hlt _ hqm
    rw [List.append_assoc, List.getElem?_append_left (by rw [hlen]; exact this)]
    exact Yz (by rw [hmk]; exact hnd) hq this
  ·rw [hk, List.mem_append, not_or] at hi
   obtain ⟨hi1, hi2⟩ := hi
   simp only [List.mem_cons, List.mem_range'_1, not_or] at hi1
   rcases Nat.lt_trichotomy i σ.objs.length with h | h | h
   ·rw [hA, List.append_assoc, List.append_assoc, List.getElem?_append_left h, List.getElem?_append_left (by rw [hlen]; exact h)]
    exact (zm (by rw [hmk]; exact hi2)).symm
   ·subst h
    rw [hA, List.append_assoc, List.append_assoc, List.cons_append, List.cons_append, yaP rfl, yaP hlen]
   ·have h5 : A.length < i := by omega
    rw [List.getElem?_append_right (by omega), List.getElem?_append_right (by rw [hl2]; omega), hl2]
    obtain ⟨j, hj⟩ : ∃ j, i - A.length = j + 1 := ⟨i - A.length - 1, by omega⟩
    rw [hj]; rfl
 unfold updS at key ⊢
 simp only at key ⊢
 rw [key]
theorem ZY {m : Nat} {d : D} {no nt : Nat} (h : m + msz d ≤ no) : (∀ ob, ob ∈ lobjs m d → ob.clo no nt 0 = true) ∧ WVt no nt 0 (lay m d).av (lay m d).av := by
 have hk := yhk (ob := m + msz d) (t := lay m d) (no := no + 1) (nt := nt) (fun i hi => by
  rw [Z3, YG] at hi
  rcases List.mem_cons.1 hi with rfl | hi
  ·omega
  ·rw [List.mem_range'_1] at hi; omega)
 have hlt : ∀ q, q ∈ (lay m d).arrs → q.1 < no := fun q hq => by have := yq6 hq; omega
 have hcs : ∀ u : AD, (∀ q, q ∈ u.arrs → q.1 < no) → AV.clos no nt 0 u.cells = true := by
  intro u hu
  cases u with
  | mk k n tx o l =>
   cases l with
   | nil => rfl
   | cons a l =>
    have := hu (o, .arr ((a :: l).flatMap AD.cells)) (by simp [AD.arrs, Zv])
    simp only [AD.cells, kvOf, AV.clos, AV.clo, Bool.and_true, Bool.true_and, decide_eq_true_eq]
    exact this
 have hrow : ∀ (u : AD), (∀ q, q ∈ u.arrs → q.1 < no) → ∀ q, q ∈ u.arrs → q.2.clo no nt 0 = true := by
  intro u
  induction u using AD.ind with
  | _ k n tx o l ih =>
   intro hu q hq
   rw [AD.arrs, AD.arrss_flat] at hq hu
   rcases List.mem_append.1 hq with hq | hq
   ·cases l with
    | nil => simp [Zv] at hq
    | cons a l =>
     simp only [Zv, List.mem_singleton] at hq
     subst hq
     simp only [AObj.clo, AV.clos_iff]
     intro x hx
     obtain ⟨c, hc, hx⟩ := List.mem_flatMap.1 hx
     exact AV.clos_iff.1 (hcs c fun q hq2 => hu q (List.mem_append_right _ (List.mem_flatMap.2 ⟨c, hc, hq2⟩))) x hx
   ·obtain ⟨c, hc, hq⟩ := List.mem_flatMap.1 hq
    exact ih c hc (fun q hq2 => hu q (List.mem_append_right _ (List.mem_flatMap.2 ⟨c, hc, hq2⟩))) q hq
 refine ⟨fun ob hob => ?_, ?_⟩
 ·obtain ⟨q, hq, rfl⟩ := List.mem_map.1 hob
  exact hrow _ hlt q hq
 ·have hc := hcs _ hlt
  by_cases h0 : (lay m d).kids = []
  ·rw [AD.av_leaf h0]; exact .same rfl
  ·rw [AD.av_node h0]; exact .same hc
section
variable {P : Program} {ty : TyT} {σ0 : Store} {N : Nat} {s : St} {o : Oper} {ops : Array Oper} {os : List Oper} {K : St → Prop} {σ : Store}
/-- A datum is looked at where it lies in a row. -/
theorem ynA (hty : TyOk P ty) {t : TypeId} {p : Operand} {ti : TyI} {i off : Nat} {cells rest : List AV} {u : AD} (hg : o.guard = none) (ho : o.op = .load t p) (hti : ty t = some ti) (hk : ti.kind.agg = true) (h4 : ti.size = 4)
  (hp : ev s p = .ptr i off) (hi : s.σ.objs[i]? = some (.arr cells)) (hc : cells.drop off = u.cells ++ rest) (hd : yH N o.dst = true) (h : yz P σ0 N ops os K (s.put o.dst u.av)) : yz P σ0 N ops (o :: os) K s := by
 refine YO hg (yeR hty ?_ hd h)
 rw [ho]
 simp only [Yb, hti, hp, Yd, hi, hc, za, hk, if_true, h4]
 rw [if_pos (by rw [List.length_append, AD.cells_len]; omega), List.take_append_of_le_length (by rw [AD.cells_len]; exact Nat.le_refl _), List.take_of_length_le (by rw [AD.cells_len]; exact Nat.le_refl _)]
 rfl
end
theorem yjP (u : AD) : u.cells.take 4 = u.cells := List.take_of_length_le (by rw [AD.cells_len]; exact Nat.le_refl _)
/-- What every action keeps, the walk keeps. -/
theorem yrw {β S : Type} {nam : D → List Int → List ByteArray → Int → S → List β × S} {vari : D → List Int → Option β → S → S} (I : S → Prop) (hn : ∀ d p ns n s, I s → I (nam d p ns n s).2) (hv : ∀ d p b s, I s → I (vari d p b s)) :
  ∀ (d : D) (p : List Int) (sc : List (ByteArray × β)) (s : S), I s → I (wk nam vari d p sc s) := by
 intro d
 induction d using D.indS with
 | h d ih =>
  intro p sc s hg
  by_cases h2 : yb d = 2
  ·rw [ygf _ _ h2]; exact hv _ _ _ _ hg
  by_cases h5 : yb d = 5 ∨ yb d = 9
  ·rw [yhO _ _ h5]
   have hq : subL d 2 (d2 d.kids) ∈ subs d := by rw [y5 h5]; simp
   exact ih _ hq _ _ _ (hn _ _ _ _ _ hg)
  by_cases h6 : yb d = 6
  ·rw [yiP _ _ h6]
   have hq : (⟨[2], []⟩, d2 d.kids) ∈ subs d := by rw [yQ h6]; simp
   have hq3 : subL d 3 (d.kids.getD 3 dnone) ∈ subs d := by rw [yQ h6]; simp
   exact ih _ hq3 _ _ _ (ih _ hq _ _ _ (hn _ _ _ _ _ hg))
  by_cases h7 : yb d = 7
  ·rw [yh2 _ _ h7]
   have hq : subL d 2 (d2 d.kids) ∈ subs d := by rw [y9 h7]; simp
   refine ih _ hq _ _ _ ?_
   have h0 := hn d p (ownS d) 0 s hg
   generalize yB sc (ownS d) (nam d p (ownS d) 0 s).1 = inn
   generalize (nam d p (ownS d) 0 s).2 = s0 at h0
   have key : ∀ k, k ≤ (d1 d.kids).kids.length → I (wkd nam vari d p inn k s0) := by
    intro k
    induction k with
    | zero => intro _; exact h0
    | succ k ihk =>
     intro hk
     have hx : (d1 d.kids).kids[k]? = some ((d1 d.kids).kids[k]'(by omega)) := by simp
     rw [ycH _ _ hx]
     exact ih _ (List.mem_of_getElem? (Yh h7 hx)) _ _ _ (hn _ _ _ _ _ (ihk (by omega)))
   exact key _ (Nat.le_refl _)
  ·rw [← ygh nam vari (d := d) (p := p) (sc := sc) (s := s) ⟨h2, fun h => h5 (.inl h), fun h => h5 (.inr h), h6, h7⟩]
   have key : ∀ k, k ≤ (subs d).length → I (wks nam vari d p sc k s) := by
    intro k
    induction k with
    | zero => intro _; exact hg
    | succ k ihk =>
     intro hk
     have hx : (subs d)[k]? = some ((subs d)[k]'(by omega)) := by simp
     rw [ycQ _ _ hx]
     exact ih _ (List.mem_of_getElem? hx) _ _ _ (ihk (by omega))
   exact key _ (Nat.le_refl _)
theorem ycC {Sg : Type} (to : List Int → Int → ByteArray → Sg → ByteArray × Sg) (e : D) (st : Sg) : (zT to e st).1.er = e.er :=
 yrw (fun s : D × Sg => s.1.er = e.er) (fun d p ns n s hs => (yfE to d p ns n s ns.length (Nat.le_refl _)).trans hs) (fun d p b s hs => by
  cases b with
  | none => exact hs
  | some b => exact (D.er_setText _ _ _).trans hs) e [] [] (e, st) rfl
theorem ypT (u : AD) : za true 4 u.cells = some u.av := by
 unfold za
 rw [if_pos rfl, if_pos (by rw [AD.cells_len]; exact Nat.le_refl _), yjP]; rfl
theorem yfW {ty : TyT} {s : St} {c : Tmp} {t : TypeId} {ti : TyI} {i : Nat} {u : AD} (hti : ty t = some ti) (hk : ti.kind.agg = true) (h4 : ti.size = 4) (hp : get s.T c = .lptr i 0) (hL : s.L[i]? = some u.cells) : YU ty s [.cell c t] = some [u.av] := by
 simp only [YU, hti, hp, Yd, hL, Option.bind_some, List.drop_zero, hk, h4, ypT, Option.map_some]
theorem ymm (u : AD) : AV.noLs [u.av] = true := by
 by_cases h : u.kids = []
 ·rw [AD.av_leaf h]; rfl
 ·rw [AD.av_node h]
  simp only [AV.noLs, AV.noL, Bool.and_true]
  exact AV.noLs_iff.2 (AD.noL_cells u)
end Go.Aw

namespace Go.Aw
open Go Go.ChangeShapes Go.WideShapes Go.ChangeAt Go.WideMaps Go.WideElems Go.RowKit
theorem ybK {α : Type} {Q : Nat → α → Prop} : ∀ n : Nat, (∀ i, i < n → ∃ d, Q i d) → ∃ l : List α, l.length = n ∧ ∀ i x, l[i]? = some x → Q i x
 | 0, _ => ⟨[], rfl, fun i x h => by simp at h⟩
 | n + 1, h => by
  obtain ⟨l, h1, h2⟩ := ybK n (fun i hi => h i (by omega))
  obtain ⟨d, hd⟩ := h n (by omega)
  refine ⟨l ++ [d], by simp [h1], fun i x hx => ?_⟩
  rcases getElem?_snoc hx with hx | ⟨rfl, rfl⟩
  ·exact h2 i x hx
  ·rw [h1]; exact hd

theorem yeI {B : Nat} {S : Nat → Nat → Prop} {w : World} {a : Addr} {len cap sz : Nat} {xs : List PV} (hlen : xs.length = len) (hcap : len ≤ cap) (hb : a.block < B) (h0 : 0 < sz) (hsz : ∀ x, x ∈ xs → x.cells.length = sz)
  (h : ∀ (q : Nat) x, xs[q]? = some x → ∃ cs : List Value, cs.length = sz ∧ (∀ r, r < sz → w.cell? ((a.add (q * sz)).add r) = cs[r]?) ∧ (∀ v, v ∈ cs → v.oneCell' = true) ∧ ∀ (r : Nat) y v, x.cells[r]? = some y → cs[r]? = some v → RP B S w y v) :
  RP B S w (.slice xs) (.slice (some a) len cap) := by
 by_cases hl : xs = []
 ·subst hl; simp at hlen; subst hlen; exact .empty
 have hspot : a.spot = none := by
  obtain ⟨x, r, hx⟩ := ydL hl
  obtain ⟨cs, h1, h2, _⟩ := h 0 x (by rw [hx]; rfl)
  have h3 := h2 0 h0
  rw [Nat.zero_mul, Addr.add, if_pos rfl, Addr.add, if_pos rfl] at h3
  have h4 : cs[0]? = some cs[0] := by simp
  rw [h4] at h3
  unfold World.cell? at h3
  cases hs : a.spot with
  | none => rfl
  | some s =>
   rw [hs] at h3
   split at h3 <;> simp at h3
 have hadd : ∀ n, a.add n = ⟨a.block, a.off + n, none⟩ := by
  intro n
  unfold Addr.add
  split
  ·subst_vars; cases a; simp only at hspot; subst hspot; rfl
  ·rfl
 have hadd2 : ∀ n m, (a.add n).add m = ⟨a.block, a.off + (n + m), none⟩ := by
  intro n m
  rw [hadd]
  unfold Addr.add
  split
  ·subst_vars; rfl
  ·show (⟨a.block, a.off + n + m, none⟩ : Addr) = _
   rw [Nat.add_assoc]
 have ha : a = ⟨a.block, a.off, none⟩ := by cases a; simp only at hspot; subst hspot; rfl
 have hall : ∀ i, i < len * sz → ∃ (q r : Nat) (x : PV) (cs : List Value), i = q * sz + r ∧ r < sz ∧ xs[q]? = some x ∧ cs.length = sz ∧ w.cell? ⟨a.block, a.off + i, none⟩ = cs[r]? ∧ (∀ v, v ∈ cs → v.oneCell' = true) ∧ ∀ (r : Nat) y v, x.cells[r]? = some y → cs[r]? = some v → RP B S w y v := by
  intro i hi
  have hq : i / sz < len := Nat.div_lt_of_lt_mul (by rw [Nat.mul_comm]; exact hi)
  have hr : i % sz < sz := Nat.mod_lt _ h0
  have hx : xs[i / sz]? = some xs[i / sz] := by simp [hlen, hq]
  obtain ⟨cs, h1, h2, h3, h4⟩ := h _ _ hx
  have h5 := h2 (i % sz) hr
  have he : i / sz * sz + i % sz = i := by rw [Nat.mul_comm]; exact Nat.div_add_mod i sz
  rw [hadd2, he] at h5
  exact ⟨i / sz, i % sz, _, cs, he.symm, hr, hx, h1, h5, h3, h4⟩
 rw [ha, ← hlen]
 refine RP.slice (sz := sz) (vs := (List.range (len * sz)).map fun j => (w.cell? ⟨a.block, a.off + j, none⟩).getD (.int .i64 0)) hsz (by simp [hlen]) (by omega) (fun i v hv => ?_) (fun i y v hy hv => ?_)
 ·have hi : i < len * sz := by have := (List.getElem?_eq_some_iff.1 hv).1; simpa using this
  obtain ⟨q, r, x, cs, h1, h2, h3, h4, h5, h6, h7⟩ := hall i hi
  have h8 : cs[r]? = some cs[r] := by simp [h4, h2]
  rw [h8] at h5
  simp only [List.getElem?_map, List.getElem?_range hi, Option.map_some, Option.some.injEq, h5, Option.getD_some] at hv
  subst hv
  exact ⟨.inl hb, h5, h6 _ (List.getElem_mem _)⟩
 ·have hi : i < len * sz := by have := (List.getElem?_eq_some_iff.1 hv).1; simpa using this
  obtain ⟨q, r, x, cs, h1, h2, h3, h4, h5, h6, h7⟩ := hall i hi
  have h8 : cs[r]? = some cs[r] := by simp [h4, h2]
  rw [h8] at h5
  simp only [List.getElem?_map, List.getElem?_range hi, Option.map_some, Option.some.injEq, h5, Option.getD_some] at hv
  subst hv
  rw [h1, ye5 hsz h3 h2] at hy
  exact h7 r y _ hy h8

/-! ### data -/
structure DatumTy (P : Program) (tD tK ti tn ts : TypeId) : Prop where
 und : ∃ f0 f1 f2 f3 : Field, P.underlying tD = some (.struct #[f0, f1, f2, f3]) ∧ f0.type = ti ∧ f0.offset = 0 ∧ f1.type = tn ∧ f1.offset = 1 ∧ f2.type = ts ∧ f2.offset = 2 ∧ f3.type = tK ∧ f3.offset = 3
 i : P.underlying ti = some (.int .i64)
 n : P.underlying tn = some (.int .i64)
 s : P.underlying ts = some .string
 k : P.underlying tK = some (.slice tD)
 cD : P.cellsOf tD = 4
 ci : P.cellsOf ti = 1
 cn : P.cellsOf tn = 1
 cs : P.cellsOf ts = 1
 ck : P.cellsOf tK = 1

theorem yh9 {α : Type} {l : List α} {i : Nat} {a : α} (h : (l.drop i).take 1 = [a]) : l[i]? = some a := by
 have h1 : ((l.drop i).take 1)[0]? = some a := by rw [h]; rfl
 rw [List.getElem?_take, List.getElem?_drop] at h1
 simpa using h1

section
variable {H : Type} {enc' : TypeId × Value → H} {P : Program} {w : World} {base : Nat} {spare : Nat → Bool} {held : Bool} {tD tK ti tn ts : TypeId} {S : Nat → Nat → Prop}
theorem ylc (T : DatumTy P tD tK ti tn ts) : ∀ (fuel : Nat) (cs : List Value) (x : DataW H × List MemPlace), DataW.trod enc' P w base spare held fuel tD cs = some x →
  ∃ (d : D) (v : Value), cs = [.int .i64 d.kind, .int .i64 d.num, .string d.text, v] ∧ v.oneCell' = true ∧ RP w.heap.size S w (.slice (d.kids.map enc)) v := by
 intro fuel
 induction fuel using Nat.strongRecOn with
 | _ fuel ih =>
  intro cs x h
  obtain ⟨f0, f1, f2, f3, hu, t0, o0, t1, o1, t2, o2, t3, o3⟩ := T.und
  obtain ⟨xs, n, rfl, rfl, hl, hlen, hf⟩ := DataW.trod_struct hu h
  have hxl : xs.length = 4 := by simpa using hlen
  have g0 := hf 0 f0 rfl
  have g1 := hf 1 f1 rfl
  have g2 := hf 2 f2 rfl
  have g3 := hf 3 f3 rfl
  rw [t0, o0, T.ci] at g0
  rw [t1, o1, T.cn] at g1
  rw [t2, o2, T.cs] at g2
  rw [t3, o3, T.ck] at g3
  have s0 : xs[0]? = some xs[0] := by simp
  have s1 : xs[1]? = some xs[1] := by simp
  have s2 : xs[2]? = some xs[2] := by simp
  have s3 : xs[3]? = some xs[3] := by simp
  rw [s0] at g0
  rw [s1] at g1
  rw [s2] at g2
  rw [s3] at g3
  obtain ⟨k, e0, _, _⟩ := DataW.trod_int T.i g0
  obtain ⟨m, e1, _, _⟩ := DataW.trod_int T.n g1
  obtain ⟨t, e2, _, _⟩ := DataW.trod_string T.s g2
  have a0 := yh9 e0
  have a1 := yh9 e1
  have a2 := yh9 e2
  rw [T.cD] at hl
  have hcs : ∃ v, cs = [.int .i64 k, .int .i64 m, .string t, v] := by
   match cs, hl, a0, a1, a2 with
   | [c0, c1, c2, c3], _, a0, a1, a2 =>
    simp only [List.getElem?_cons_zero, List.getElem?_cons_succ, Option.some.injEq] at a0 a1 a2
    exact ⟨c3, by rw [a0, a1, a2]⟩
  obtain ⟨v, hcs⟩ := hcs
  rw [hcs] at g3
  have g3' : DataW.trod enc' P w base spare held n tK [v] = some xs[3] := g3
  rcases DataW.trod_slice T.k g3' with ⟨hv, _⟩ | ⟨a, len, cap, elems, rest, m', rfl, hv, _, hb, hlc, hcm, hel, hes, _⟩
  ·cases hv
   exact ⟨.mk k m t [], _, hcs, rfl, by simp only [D.kids, List.map_nil]; exact .empty⟩
  ·cases hv
   rw [T.cD] at hes
   have hex : ∀ i, i < len → ∃ d : D, ∃ v' : Value, (∀ r, r < 4 → w.cell? ((a.add (i * 4)).add r) = ([.int .i64 d.kind, .int .i64 d.num, .string d.text, v'] : List Value)[r]?) ∧ v'.oneCell' = true ∧ RP w.heap.size S w (.slice (d.kids.map enc)) v' := by
    intro i hi
    have h1 := hes i hi
    have h2 : elems[i]? = some elems[i] := by simp [hel, hi]
    rw [h2] at h1
    obtain ⟨cs', hc, ht⟩ := Option.bind_eq_some_iff.1 h1
    obtain ⟨_, _, hc2⟩ := World.cells?_some hc
    obtain ⟨d, v', he, hone, hrp⟩ := ih m' (by omega) cs' _ ht
    subst he
    exact ⟨d, v', hc2, hone, hrp⟩
   obtain ⟨l, hll, hlq⟩ := ybK len hex
   refine ⟨.mk k m t l, _, hcs, rfl, ?_⟩
   show RP w.heap.size S w (.slice (l.map enc)) (.slice (some a) len cap)
   by_cases hlen0 : len = 0
   ·subst hlen0
    have : l = [] := List.eq_nil_of_length_eq_zero hll
    subst this
    exact .empty
   have hblk : a.block < w.heap.size := by
    obtain ⟨d, v', h1, _⟩ := hex 0 (by omega)
    have h2 := h1 0 (by omega)
    rw [Nat.zero_mul, Addr.add, if_pos rfl, Addr.add, if_pos rfl] at h2
    unfold World.cell? at h2
    by_cases hlt : a.block < w.heap.size
    ·exact hlt
    ·rw [Array.getElem?_eq_none (by omega)] at h2; simp at h2
   refine yeI (sz := 4) (by simp [hll]) hlc hblk (by omega) (fun x hx => ?_) (fun q x hx => ?_)
   ·obtain ⟨d, _, rfl⟩ := List.mem_map.1 hx
    rw [zK]; rfl
   ·rw [List.getElem?_map] at hx
    obtain ⟨d, hd, rfl⟩ := Option.map_eq_some_iff.1 hx
    obtain ⟨v', h1, h2, h3⟩ := hlq q d hd
    refine ⟨[.int .i64 d.kind, .int .i64 d.num, .string d.text, v'], rfl, h1, fun u hu => ?_, fun r y u hy hu => ?_⟩
    ·simp only [List.mem_cons, List.not_mem_nil, or_false] at hu
     rcases hu with rfl | rfl | rfl | rfl <;> first | rfl | exact h2
    ·rw [zK] at hy
     match r with
     | 0 => simp at hy hu; subst hy hu; exact .int
     | 1 => simp at hy hu; subst hy hu; exact .int
     | 2 => simp at hy hu; subst hy hu; exact .str
     | 3 => simp at hy hu; subst hy hu; exact h3
     | r + 4 => simp at hy
end
end Go.Aw

namespace Go.Aw
open Go Go.ChangeShapes Go.WideShapes Go.ChangeAt Go.WideMaps Go.WideElems Go.RowKit
theorem yez {H : Type} (x : Lit × DataW H) : ∀ l : List (Lit × DataW H), (DataW.insert x l).Perm (x :: l)
 | [] => .refl _
 | y :: r => by
  unfold DataW.insert
  split
  ·exact .refl _
  ·exact ((yez x r).cons y).trans (.swap _ _ _)
theorem YL {H : Type} : ∀ l : List (Lit × DataW H), (l.foldr DataW.insert []).Perm l
 | [] => .refl _
 | x :: l => (yez x _).trans ((YL l).cons x)

def ycb : Lit → List UInt8
 | .string s => s
 | _ => []

/-! ### the beginning and the end of a call -/
def g0 (W : World) : Ghost := { B := W.heap.size, K := fun _ => False, S := fun _ _ => False, io := [], lam := [], tb := [] }
theorem inv0 {W : World} {gl : List (Nat × PV)} (h : ∀ n p, (n, p) ∈ gl → RP W.heap.size (fun _ _ => False) W p (.pointer (some ⟨n, 0, none⟩))) : Inv (g0 W) ⟨gl, [], []⟩ [] W := by
 refine ⟨rfl, rfl, rfl, h, List.nodup_nil, fun b hb => (by simp [g0, Ghost.owned] at hb), fun b hb => (by cases hb), Nat.le_refl _, fun b o hS => (by cases hS), fun o ob b ho => (by simp at ho), fun i cs b hL => (by simp at hL), fun k t tb ht => (by simp at ht)⟩
theorem yoi {W W' : World} {σ σ' : Store} {g' : Ghost} (h : Ext (g0 W) σ W g' σ' W') : Below W.heap.size W W' :=
 ⟨h.os, h.tape, h.output, h.size, fun k hk => h.le.keeps.blk k hk⟩

section
variable {H : Type} {enc' : TypeId × Value → H} {P : Program}
theorem yhu {f : Func} {s : ChangeSpec} {apart fresh handsOn again : Bool} {W W' : World} {args : Array Value} {v : Value} {ds gs : List (DataW H)} {before pa pv : List MemPlace}
  (hW : DataW.Whole enc' P f.params.toList s.vars apart W args.toList ds gs before)
  (hres : ∀ (b : Nat) (sp : Nat → Bool) (hd : Bool), DataW.TrodAll enc' P W' b sp hd f.resultTypes.toList (v.resultList f.resultTypes.size) (s.fn H (ds ++ gs)).results [])
  (hargs : ∀ sp : Nat → Bool, (∀ p ∈ before, sp p.block = true) → DataW.TrodAll enc' P W' 0 sp true f.params.toList args.toList (s.fn H (ds ++ gs)).args pa)
  (hvars : ∀ sp : Nat → Bool, (∀ p ∈ before, sp p.block = true) → DataW.TrodVars enc' P W' sp s.vars (s.fn H (ds ++ gs)).vars pv)
  (hps : before = pa ++ pv) (hb : Below W.heap.size W W')
  (hok : ∀ (j : Nat) (t : TypeId) (r : Value), f.resultTypes[j]? = some t → (v.resultList f.resultTypes.size)[j]? = some r → Value.okWide P W' .any 0 t r) :
  s.post enc' P f apart fresh handsOn again W args v W' := by
 have hold : ∀ p ∈ before, (fun b => decide (b < W.heap.size)) p.block = true := fun p hp => by simpa using hW.lt p hp
 refine ⟨ds, gs, before, [], pa, pv, hW, hres _ _ _, hargs _ hold, hvars _ hold, hb.frame _, fun _ => ?_⟩
 have hlt := hW.lt
 obtain ⟨_, _, _, _, _, hz, hn⟩ := hW
 refine ⟨hok, _, _, ([] ++ pa) ++ pv, ⟨[] ++ pa, pv, trodAll_append (hargs _ (fun _ _ => rfl)) (hres _ _ _), hvars _ (fun _ _ => rfl), rfl, ?_, ?_⟩, ?_⟩
 ·intro b off hp
  have hp' : MemPlace.cell b off ∈ before := by rw [hps]; simpa using hp
  have hl := hlt _ hp'
  rw [hb.frozen (p := ⟨b, off, none⟩) hl]
  exact hz b off hp'
 ·intro ha
  have := hn ha
  rw [hps] at this
  simpa using this
 ·intro p hp _
  rw [hps]
  simpa using hp
end
end Go.Aw

namespace Go.Aw
open Go Go.RowKit Go.Sort Go.Proofs Go.Maps Go.WideElems
def bstr (l : List UInt8) : ByteArray := ⟨l.toArray⟩
/-- A call that gives a new row of strings and leaves the world but for new blocks. -/
theorem yjw {P : Program} {f : FuncId} {args : List AV} {σ : Store} {Q : List (List UInt8) → Prop}
  (h : ∀ g w (cargs : List Value), Inv g σ [] w → cargs.length = args.length → (∀ (i : Nat) x v, args[i]? = some x → cargs[i]? = some v → RA g σ.toks w x v) →
   Calls P f cargs.toArray w fun e w' => ∃ (v : Value) (ss : List (List UInt8)) (t : TypeId), e = .returned v ∧ Q ss ∧ w'.ownsRow w.heap.size t 1 v ss.length (ss.map encStr) ∧ Below w.heap.size w w') :
  ACalls P f args σ fun r σ' => ∃ ss : List (List UInt8), r = .pv (.slice (ss.map fun l => .str (bstr l))) ∧ Q ss ∧ σ' = σ := by
 intro g w cargs hinv hlen hargs
 refine (h g w cargs hinv hlen hargs).mono ?_
 rintro e w' ⟨v, ss, t, rfl, hQ, ⟨hxl, hrow⟩, hb⟩
 obtain ⟨h1, h2⟩ := hinv.step hb.size (fun b hlt => hb.block b hlt)
 have hext : Ext g σ w g σ w' := ⟨h2, rfl, fun _ h => h, fun b hK => hb.block b (hinv.kept b hK).1, hb.size, hb.os, hb.tape, hb.output, hinv.lio, hinv.clo⟩
 rcases hrow with ⟨rfl, hn⟩ | ⟨b, cap, cur, rfl, hbase, hbk, hnc, hcm, hsz, htk⟩
 ·have hss : ss = [] := List.eq_nil_of_length_eq_zero hn
  subst hss
  exact ⟨_, _, σ, g, rfl, ⟨[], rfl, hQ, rfl⟩, h1, hext, .pv .empty⟩
 ·have hblt : b < w'.heap.size := by
   by_cases hlt : b < w'.heap.size
   ·exact hlt
   ·rw [Array.getElem?_eq_none (by omega)] at hbk; cases hbk
  have hfr : Fresh g w' b := by
   refine ⟨by have := hinv.base; omega, hblt, fun hK => by have := (hinv.kept b hK).1; omega, fun o hS => by have := (hinv.cells b o hS).2.1; omega, fun hm => by have := (hinv.low b hm).2.1; omega⟩
  obtain ⟨h3, h4⟩ := h1.addS hfr (fun o => o < ss.length)
  have hle := h2.trans h4
  refine ⟨_, _, σ, _, rfl, ⟨ss, rfl, hQ, rfl⟩, h3, ⟨hle, rfl, fun _ h => h, fun b hK => hb.block b (hinv.kept b hK).1, hb.size, hb.os, hb.tape, hb.output, hinv.lio, hinv.clo⟩, .pv ?_⟩
  have hrp : RP g.B (fun c o => g.S c o ∨ (c = b ∧ o < ss.length)) w' (.slice (ss.map fun l => .str (bstr l))) (.slice (some ⟨b, 0, none⟩) (ss.map fun l => PV.str (bstr l)).length cap) := by
   refine .slice (sz := 1) (vs := ss.map encStr) (fun x hx => by obtain ⟨l, _, rfl⟩ := List.mem_map.1 hx; rfl) (by simp) (by simpa using hnc) (fun i u hu => ?_) (fun i x u hx hu => ?_)
   ·have hi : i < ss.length := by have := (List.getElem?_eq_some_iff.1 hu).1; simpa using this
    refine ⟨.inr (.inr ⟨rfl, by omega⟩), ?_, ?_⟩
    ·rw [zc hbk, Nat.zero_add]
     have h5 : (cur.toList.take (ss.length * 1))[i]? = some u := by rw [htk]; exact hu
     rw [List.getElem?_take, if_pos (by omega)] at h5
     simpa using h5
    ·rw [List.getElem?_map] at hu
     obtain ⟨l, _, rfl⟩ := Option.map_eq_some_iff.1 hu
     rfl
   ·have hfl : flat (ss.map fun l => PV.str (bstr l)) = ss.map fun l => PV.str (bstr l) := by
     generalize ss = L
     induction L with
     | nil => rfl
     | cons a L ih => simp only [List.map_cons]; show PV.cells _ ++ flat _ = _; rw [ih]; rfl
    rw [hfl, List.getElem?_map] at hx
    rw [List.getElem?_map] at hu
    obtain ⟨l, hl, rfl⟩ := Option.map_eq_some_iff.1 hx
    rw [hl] at hu
    simp only [Option.map_some, Option.some.injEq] at hu
    subst hu
    exact .str
  simpa using hrp
/-- A set in memory, as the kit reads a map. -/
theorem yoq {P : Program} {g : Ghost} {w : World} {b : Nat} {S : List ByteArray} {kt : TypeId} (hk : P.underlying kt = some .string) (h : RMap g w b (tK S) (tV S)) (hm : S.length ≤ maxLen) (hs : ∀ s, s ∈ S → s.size ≤ maxLen) :
  ∃ D0 : DataW Unit, w.ownsMap P kt (fun _ => some (.nil, [])) b S.length D0 ∧ (strKeys D0).Perm (S.map fun s => s.data.toList) ∧ Maps.size D0 = S.length := by
 obtain ⟨es, clock, h0, h1, h2, h3, h4, h5⟩ := h
 have hkl : (tK S).length = S.length := by simp [tK]
 have hes : ∀ (i : Nat) e, es[i]? = some e → ∃ s, S[i]? = some s ∧ e.key = .string s := by
  intro i e he
  have hi : i < S.length := by have := (List.getElem?_eq_some_iff.1 he).1; omega
  have hsi : S[i]? = some S[i] := by simp
  have hti : (tK S)[i]? = some (.str S[i]) := by unfold tK; rw [List.getElem?_map, hsi]; rfl
  exact ⟨_, hsi, (h3 i _ e hti he).str_inv⟩
 have hrd : ∀ (i : Nat) e, es[i]? = some e → ∃ s, S[i]? = some s ∧ WideElems.rd P kt (fun _ => some ((.nil : DataW Unit), [])) e = some (.string s.data.toList, .nil) := by
  intro i e he
  obtain ⟨s, hsi, hke⟩ := hes i e he
  refine ⟨s, hsi, ?_⟩
  unfold WideElems.rd
  rw [hke, WideMaps.keyOf_string_mk hk (hs s (List.mem_of_getElem? hsi))]
  rfl
 have hrg : es.map (WideElems.rg P kt fun _ => some ((.nil : DataW Unit), [])) = S.map fun s => (Lit.string s.data.toList, (.nil : DataW Unit)) := by
  apply List.ext_getElem?
  intro i
  rw [List.getElem?_map, List.getElem?_map]
  cases he : es[i]? with
  | none =>
   have : S[i]? = none := by rw [List.getElem?_eq_none_iff] at he ⊢; omega
   rw [this]; rfl
  | some e =>
   obtain ⟨s, hsi, hr⟩ := hrd i e he
   rw [hsi]
   simp only [Option.map_some]
   rw [WideElems.rg_of hr]
 refine ⟨_, ⟨es.toArray, clock, h0, ⟨by simp; omega, h5, fun x hx => ?_⟩, by simp; omega, rfl⟩, ?_, ?_⟩
 ·obtain ⟨i, hi⟩ := List.getElem?_of_mem (show x ∈ es by simpa using hx)
  obtain ⟨s, _, hr⟩ := hrd i x hi
  exact ⟨_, hr⟩
 ·have hp := (YL (es.toArray.toList.map (WideElems.rg P kt fun _ => some ((.nil : DataW Unit), [])))).map fun p => strOf p.1
  rw [show es.toArray.toList = es by simp, hrg] at hp
  show List.Perm (List.map _ _) _
  rw [show es.toArray.toList = es by simp, hrg]
  refine hp.trans ?_
  rw [List.map_map]
  refine List.Perm.of_eq (List.map_congr_left fun s _ => ?_)
  rfl
 ·have hp := (YL (es.toArray.toList.map (WideElems.rg P kt fun _ => some ((.nil : DataW Unit), []))))
  rw [show es.toArray.toList = es by simp, hrg] at hp
  show List.length _ = _
  rw [show es.toArray.toList = es by simp, hrg, hp.length_eq]
  simp
theorem yag {α : Type} {r : α → α → Prop} (ha : ∀ a b, r a b → r b a → a = b) : ∀ {l1 l2 : List α}, l1.Perm l2 → l1.Pairwise r → l2.Pairwise r → l1 = l2
 | [], l2, h, _, _ => (List.Perm.nil_eq h)
 | a :: l1, [], h, _, _ => (List.Perm.eq_nil h)
 | a :: l1, b :: l2, h, h1, h2 => by
  have hab : a = b := by
   rcases List.mem_cons.1 (h.mem_iff.1 (List.mem_cons_self (a := a) (l := l1))) with e | e
   ·exact e
   ·rcases List.mem_cons.1 (h.mem_iff.2 (List.mem_cons_self (a := b) (l := l2))) with e2 | e2
    ·exact e2.symm
    ·exact ha a b ((List.pairwise_cons.1 h1).1 b e2) ((List.pairwise_cons.1 h2).1 a e)
  subst hab
  rw [yag ha (List.Perm.cons_inv h) (List.pairwise_cons.1 h1).2 (List.pairwise_cons.1 h2).2]
/-- Strings, rising. -/
def Ys (S : List ByteArray) : List ByteArray := ((S.map fun s => s.data.toList).mergeSort fun x y => decide (x ≤ y)).map bstr
theorem ydr (a b : List UInt8) : (decide (a ≤ b) || decide (b ≤ a)) = true := by
 have := List.le_total a b
 rcases this with h | h <;> simp [h]
theorem ydR (a b c : List UInt8) : decide (a ≤ b) = true → decide (b ≤ c) = true → decide (a ≤ c) = true := by
 simp only [decide_eq_true_eq]
 exact fun h1 h2 => List.le_trans h1 h2
theorem ylO {ss tt : List (List UInt8)} (h : ss.Perm tt) : (ss.mergeSort fun x y => decide (x ≤ y)) = tt.mergeSort fun x y => decide (x ≤ y) := by
 refine yag (r := fun x y => (decide (x ≤ y)) = true) (fun a b h1 h2 => List.le_antisymm (by simpa using h1) (by simpa using h2)) ?_ (List.pairwise_mergeSort (le := fun x y => decide (x ≤ y)) ydR ydr ss) (List.pairwise_mergeSort (le := fun x y => decide (x ≤ y)) ydR ydr tt)
 exact (List.mergeSort_perm ss _).trans (h.trans (List.mergeSort_perm tt _).symm)
/-- slices.Sorted of maps.Keys' iterator. -/
theorem yhx {P : Program} {fs fk : FuncId} {kt : TypeId} {n m : Nat} (hk : P.underlying kt = some .string)
  (hseq : ∀ (w : World) (Bm b nn : Nat) (D0 : DataW Unit), Bm < w.heap.size → w.cell? ⟨Bm, 0, none⟩ = some (.map (some b)) → w.ownsMap P kt (fun _ => some ((.nil : DataW Unit), [])) b nn D0 → SeqGives Fence.wide n P fk #[.pointer (some ⟨Bm, 0, none⟩)] encStr (fun ss => ss.Perm (strKeys D0)) (Maps.size D0) w)
  (hsrt : ∀ (Bm N : Nat) (S : List (List UInt8) → Prop) (w : World), N ≤ maxLen → N * 16 ≤ 140737488355328 → SeqGives Fence.wide n P fk #[.pointer (some ⟨Bm, 0, none⟩)] encStr S N w →
   CallsIn Fence.wide m P fs #[.func (.func fk) #[] #[.pointer (some ⟨Bm, 0, none⟩)]] w fun e w' => ∃ (v : Value) (ss : List (List UInt8)) (t : TypeId), e = .returned v ∧ S ss ∧ w'.ownsRow w.heap.size t 1 v ss.length ((ss.mergeSort (fun x y => decide (x ≤ y))).map encStr) ∧ Below w.heap.size w w')
  {σ : Store} {o om : Nat} {S : List ByteArray} (ho : σ.objs[o]? = some (.box [.map om])) (hom : σ.objs[om]? = some (.map (tK S) (tV S))) (hl : S.length ≤ 1000000000) (hs : ∀ s, s ∈ S → s.size ≤ maxLen) :
  ACalls P fs [.func (.func fk) [.ptr o 0]] σ fun r σ' => r = .pv (.slice ((Ys S).map .str)) ∧ σ' = σ := by
 have h := yjw (P := P) (f := fs) (args := [.func (.func fk) [.ptr o 0]]) (σ := σ) (Q := fun ss => ss = (S.map fun s => s.data.toList).mergeSort fun x y => decide (x ≤ y)) (fun g w cargs hinv hlen hargs => ?_)
 ·refine h.mono ?_
  rintro r σ' ⟨ss, rfl, rfl, rfl⟩
  exact ⟨by unfold Ys; rw [List.map_map]; rfl, rfl⟩
 ·match cargs, hlen with
  | [v], hlen1 =>
   have hv := hargs 0 _ v rfl rfl
   cases hv with
   | func hfl hfr =>
    rename_i vs
    match vs, hfl with
    | [p], hpl1 =>
     have hp := hfr 0 _ p rfl rfl
     cases hp with
     | ptr hio =>
      rename_i Bm
      obtain ⟨_, us, e, h6, h7, h8, h9⟩ := hinv.objs o _ Bm ho hio
      match us, h7 with
      | [u], hul1 =>
       have hu := h9 0 _ u rfl rfl
       cases hu with
       | map hio2 =>
        rename_i b
        have hbm := (hinv.low Bm (ydH hio)).2.1
        obtain ⟨D0, k1, k2, k3⟩ := yoq hk (hinv.objs om _ b hom hio2) (Nat.le_trans hl (by decide)) hs
        have hcell : w.cell? ⟨Bm, 0, none⟩ = some (.map (some b)) := by rw [zc h6]; rfl
        have hsq := hseq w Bm b S.length D0 hbm hcell k1
        refine (callsIn_wide.1 (hsrt Bm (Maps.size D0) _ w (by rw [k3]; exact Nat.le_trans hl (by decide)) (by rw [k3]; omega) hsq)).mono ?_
        rintro e' w' ⟨v, ss, t, rfl, hS, hrow, hb⟩
        refine ⟨v, ss.mergeSort fun x y => decide (x ≤ y), t, rfl, ylO (hS.trans k2), ?_, hb⟩
        rw [List.length_mergeSort]
        exact hrow
end Go.Aw

namespace Go.Aw
open Go
def vS (n : Int) : ByteArray := ⟨#[118]⟩ ++ z8 n
theorem yr2 {n m : Int} (hn : 0 ≤ n) (hm : 0 ≤ m) (h : vS n = vS m) : n = m := by
 have h1 := congrArg (fun x : ByteArray => x.data.toList) h
 simp [vS] at h1
 exact ynq hn hm (ByteArray.ext h1)
theorem ygU {l : List ByteArray} {x : ByteArray} : memB l x = true ↔ x ∈ l := by
 unfold memB
 rw [List.any_eq_true]
 exact ⟨fun ⟨y, hy, e⟩ => by simp at e; rw [e]; exact hy, fun h => ⟨x, h, by simp⟩⟩
/-- Different things among others are no more than these. -/
theorem yc5 {α : Type} [DecidableEq α] : ∀ {l S : List α}, l.Nodup → (∀ x, x ∈ l → x ∈ S) → l.length ≤ S.length
 | [], S, _, _ => Nat.zero_le _
 | a :: l, S, hn, h => by
  have hn := List.nodup_cons.1 hn
  have ha := h a (by simp)
  have := yc5 (l := l) (S := S.erase a) hn.2 (fun x hx => (List.mem_erase_of_ne (fun e => hn.1 (by rw [← e]; exact hx))).2 (h x (by simp [hx])))
  rw [List.length_erase_of_mem ha] at this
  have hp := List.length_pos_of_mem ha
  simp only [List.length_cons]; omega
/-- How many of the first names are among others. -/
def hits (S : List ByteArray) (n : Nat) : Nat := ((List.range n).filter fun (j : Nat) => memB S (vS (j : Int))).length
theorem ykB (S : List ByteArray) (n : Nat) : hits S n ≤ S.length := by
 unfold hits
 rw [← List.length_map (f := fun j : Nat => vS (j : Int))]
 refine yc5 ?_ (fun x hx => ?_)
 ·rw [List.nodup_iff_pairwise_ne, List.pairwise_map]
  refine List.Pairwise.imp ?_ ((List.nodup_range (n := n)).filter _)
  intro a b h e
  exact h (by have := yr2 (by omega) (by omega) e; omega)
 ·obtain ⟨j, hj, rfl⟩ := List.mem_map.1 hx
  exact ygU.1 (List.mem_filter.1 hj).2
theorem ygZ (S : List ByteArray) (n : Nat) : hits S (n + 1) = hits S n + (if memB S (vS (n : Int)) = true then 1 else 0) := by
 unfold hits
 rw [List.range_succ, List.filter_append, List.length_append]
 congr 1
 by_cases h : memB S (vS (n : Int)) = true
 ·rw [if_pos h]; simp [h]
 ·rw [if_neg h]; simp [h]
theorem yfb {S : List ByteArray} {n : Nat} : ∀ {k : Nat}, (∀ j, n ≤ j → j < n + k → memB S (vS (j : Int)) = true) → hits S (n + k) = hits S n + k
 | 0, _ => rfl
 | k + 1, h => by
  rw [← Nat.add_assoc, ygZ, yfb (fun j h1 h2 => h j h1 (by omega)), if_pos (h (n + k) (by omega) (by omega))]; omega
/-- The next name's number. -/
def nxtF (S : List ByteArray) : Nat → Nat → Nat
 | 0, n => n
 | f + 1, n => if memB S (vS (n : Int)) = true then nxtF S f (n + 1) else n
def nxtV (S : List ByteArray) (n : Nat) : Nat := nxtF S (S.length + 1) n
theorem yhj (S : List ByteArray) : ∀ (f n : Nat), n ≤ nxtF S f n ∧ nxtF S f n ≤ n + f ∧ (∀ j, n ≤ j → j < nxtF S f n → memB S (vS (j : Int)) = true) ∧ (nxtF S f n < n + f → memB S (vS (nxtF S f n : Int)) = false)
 | 0, n => ⟨Nat.le_refl _, Nat.le_refl _, fun j h1 h2 => by simp only [nxtF] at h2; omega, fun h => by simp only [nxtF] at h; omega⟩
 | f + 1, n => by
  simp only [nxtF]
  split
  ·rename_i hm
   obtain ⟨h1, h2, h3, h4⟩ := yhj S f (n + 1)
   refine ⟨by omega, by omega, fun j h5 h6 => ?_, fun h => h4 (by omega)⟩
   by_cases hj : j = n
   ·subst hj; exact hm
   ·exact h3 j (by omega) h6
  ·rename_i hm
   exact ⟨Nat.le_refl _, by omega, fun j h1 h2 => by omega, fun _ => by simpa using hm⟩
theorem ydx (S : List ByteArray) (n : Nat) : n ≤ nxtV S n ∧ nxtV S n ≤ n + S.length ∧ (∀ j, n ≤ j → j < nxtV S n → memB S (vS (j : Int)) = true) ∧ memB S (vS (nxtV S n : Int)) = false := by
 obtain ⟨h1, h2, h3, h4⟩ := yhj S (S.length + 1) n
 have hb : nxtV S n ≤ n + S.length := by
  have := yfb (S := S) (n := n) (k := nxtV S n - n) (fun j h5 h6 => h3 j h5 (by unfold nxtV at h6; omega))
  have h5 := ykB S (n + (nxtV S n - n))
  unfold nxtV at *
  omega
 exact ⟨h1, hb, h3, h4 (by unfold nxtV at hb; omega)⟩
/-- The names of a canonical form: the next number, where names are among others. -/
def ybk (S : List ByteArray) (_p : List Int) (_i : Int) (_x : ByteArray) (n : Nat) : ByteArray × Nat := (vS (nxtV S n : Int), nxtV S n + 1)
def ydX (S : List ByteArray) (m n : Nat) : Prop := n ≤ m + hits S n
theorem ylC {S : List ByteArray} {m n : Nat} (h : ydX S m n) : ydX S (m + 1) (nxtV S n + 1) := by
 obtain ⟨h4, _, h5, _⟩ := ydx S n
 unfold ydX at *
 have := yfb (S := S) (n := n) (k := nxtV S n - n) (fun j h1 h2 => h5 j h1 (by omega))
 rw [show n + (nxtV S n - n) = nxtV S n by omega] at this
 have h7 := ygZ S (nxtV S n)
 omega
/-! ### how much is in an expression -/
theorem yf4 (l : List D) (n : Nat) : D.sizes (l.take n) + D.sizes (l.drop n) = D.sizes l := by
 conv => rhs; rw [← List.take_append_drop n l]
 generalize l.take n = a
 generalize l.drop n = b
 induction a with
 | nil => simp [D.sizes]
 | cons x a ih => simp [D.sizes]; omega
theorem yfp {f : Nat → D → Sub × D} (hf : ∀ i x, (f i x).2 = x) (l : List D) : ((mapI f l).map fun q => q.2.size).sum = D.sizes l := by
 have : ((mapI f l).map fun q => q.2.size) = l.map D.size := by
  apply List.ext_getElem?
  intro i
  rw [List.getElem?_map, zG, List.getElem?_map]
  cases l[i]? with
  | none => rfl
  | some x => simp [hf]
 rw [this]
 clear this
 induction l with
 | nil => rfl
 | cons x l ih => simp [D.sizes, ih]
theorem ylA {l : List D} (h : l.length = 3) : D.sizes l = (l.headD dnone).size + (d1 l).size + (d2 l).size := by
 match l, h with
 | [a, b, c], _ => simp [D.sizes, d1, d2]; omega
theorem ysA {l : List D} (h : l.length = 4) : D.sizes l = (l.headD dnone).size + (d1 l).size + (d2 l).size + (l.getD 3 dnone).size := by
 match l, h with
 | [a, b, c, e], _ => simp [D.sizes, d1, d2]; omega
theorem yaz (d : D) : (ownS d).length + (if (yb d == 7) = true then ((d1 d.kids).kids.map fun x => (parS x).length).sum else 0) + ((subs d).map fun q => q.2.size).sum + (if yb d = 2 then 1 else 0) ≤ d.size := by
 have hsz := D.size_kids d
 by_cases h4 : yb d = 4 ∨ yb d = 8
 ·have ho : ownS d = [] := by unfold ownS; rw [if_neg (by simp; omega), if_neg (by simp; omega), if_neg (by simp; omega), if_neg (by simp; omega)]
  rw [zZ h4, yfp (fun _ _ => rfl), ho, if_neg (by simp; omega), if_neg (by omega)]
  have := yf4 d.kids 1
  simp only [List.length_nil, Nat.zero_add, Nat.add_zero]; omega
 by_cases h10 : yb d = 10
 ·have ho : ownS d = [] := by unfold ownS; rw [if_neg (by simp; omega), if_neg (by simp; omega), if_neg (by simp; omega), if_neg (by simp; omega)]
  rw [YH h10, yfp (fun _ _ => rfl), ho, if_neg (by simp; omega), if_neg (by omega)]
  simp; omega
 by_cases h5 : yb d = 5 ∨ yb d = 9
 ·have hl := (y4 d).1 (h5.elim .inl fun h => .inr (.inl h))
  have ho : ownS d = (d1 d.kids).kids.map D.text := by unfold ownS; rcases h5 with h | h <;> rw [h] <;> rfl
  rw [y5 h5, ho, if_neg (by simp; omega), if_neg (by omega)]
  have h1 := D.kids_length_lt (d1 d.kids)
  have h2 := ylA hl
  simp [subL]; omega
 by_cases h6 : yb d = 6
 ·have hl := (y4 d).2.1 h6
  have ho : ownS d = [(d1 d.kids).text] := by unfold ownS; rw [h6]; rfl
  rw [yQ h6, ho, if_neg (by simp; omega), if_neg (by omega)]
  have h1 := D.size_pos (d1 d.kids)
  have h2 := ysA hl
  simp [subL] at h2 ⊢; omega
 by_cases h7 : yb d = 7
 ·have hl := (y4 d).1 (.inr (.inr h7))
  have h3 := (y4 d).2.2 h7
  have ho : ownS d = (d1 d.kids).kids.map fun x => x.head.text := by unfold ownS; rw [h7]; rfl
  have h2 := ylA hl
  have hs1 := D.size_kids (d1 d.kids)
  have hm : ((mapI (subR d) (d1 d.kids).kids).map fun q => q.2.size).sum = ((d1 d.kids).kids.map fun x => (d2 x.kids).size).sum := by
   have : ((mapI (subR d) (d1 d.kids).kids).map fun q => q.2.size) = (d1 d.kids).kids.map fun x => (d2 x.kids).size := by
    apply List.ext_getElem?
    intro i
    rw [List.getElem?_map, zG, List.getElem?_map]
    cases (d1 d.kids).kids[i]? with
    | none => rfl
    | some x => rfl
   rw [this]
  rw [y9 h7, ho, if_pos (by simpa using h7), if_neg (by omega), List.map_append, List.sum_append, hm]
  have key : ∀ l : List D, (∀ x, x ∈ l → x.kids.length = 3) → l.length + (l.map fun x => (parS x).length).sum + (l.map fun x => (d2 x.kids).size).sum ≤ D.sizes l := by
   intro l
   induction l with
   | nil => intro _; simp
   | cons x l ih =>
    intro h
    have ih := ih fun y hy => h y (by simp [hy])
    have hx := ylA (h x (by simp))
    have hsx := D.size_kids x
    have hp : (parS x).length < (d1 x.kids).size := by unfold parS; rw [List.length_map]; exact D.kids_length_lt _
    simp only [List.length_cons, List.map_cons, List.sum_cons, D.sizes]
    omega
  have hk := key _ h3
  simp [subL] at hk ⊢; omega
 ·have hs : subs d = [] := Yo (by cases shape d <;> omega)
  have ho : ownS d = [] := by unfold ownS; rw [if_neg (by simp; omega), if_neg (by simp; omega), if_neg (by simp; omega), if_neg (by simp; omega)]
  rw [hs, ho, if_neg (by simp; omega)]
  have := D.size_pos d
  simp; split <;> omega
theorem ykk : ∀ d : D, ncnt d ≤ d.size := by
 intro d
 induction d using D.indS with
 | h d ih =>
  rw [yb6]
  have hb := yaz d
  have : ((subs d).map fun q => ncnt q.2).sum ≤ ((subs d).map fun q => q.2.size).sum := by
   have : ∀ l : List (Sub × D), (∀ q, q ∈ l → ncnt q.2 ≤ q.2.size) → (l.map fun q => ncnt q.2).sum ≤ (l.map fun q => q.2.size).sum := by
    intro l
    induction l with
    | nil => intro _; simp
    | cons q l ihl => intro h; have h1 := h q (by simp); have h2 := ihl fun x hx => h x (by simp [hx]); simp; omega
   exact this _ ih
  omega
theorem ycr (S : List ByteArray) (x : ByteArray) : (addS S x).length ≤ S.length + 1 := by unfold addS; split <;> simp
theorem ygP : ∀ (d : D) (l S : List ByteArray), (sfree d l S).length ≤ S.length + d.size := by
 intro d
 induction d using D.indS with
 | h d ih =>
  intro l S
  rw [Zb]
  split
  ·have := D.size_pos d
   split
   ·omega
   ·have := ycr S d.text; omega
  ·have hb := yaz d
   have : ∀ (r : List (Sub × D)) (S : List ByteArray), (∀ q, q ∈ r → ∀ l S, (sfree q.2 l S).length ≤ S.length + q.2.size) → (r.foldl (fun S q => sfree q.2 (q.1.ns.map (·.1) ++ l) S) S).length ≤ S.length + (r.map fun q => q.2.size).sum := by
    intro r
    induction r with
    | nil => intro S _; simp
    | cons q r ihr =>
     intro S h
     have h1 := h q (by simp) (q.1.ns.map (·.1) ++ l) S
     have h2 := ihr (sfree q.2 (q.1.ns.map (·.1) ++ l) S) fun x hx => h x (by simp [hx])
     simp only [List.foldl_cons, List.map_cons, List.sum_cons]; omega
   have h3 := this (subs d) S ih
   omega
/-- The canonical form. -/
def sCan (e : D) : D := (zT (ybk (sfree e [] [])) e 0).1
end Go.Aw

namespace Go.Aw
open Go
/-- The orders of a list. -/
def perms : Nat → List Nat → List (List Nat)
 | 0, _ => [[]]
 | n + 1, l => l.flatMap fun i => (perms n (l.erase i)).map (i :: ·)

end Go.Aw

namespace Go.Aw
open Go
section
variable {ρ : Option Nat} {P : Program} {ty : TyT} {V : View} {ops : Array Oper} {σ0 : Store} {N m : Nat} {Q : St → Prop}
/-- Nothing stands before what it must stand behind. -/
def LinX (ops : Array Oper) : List Nat → Prop
 | [] => True
 | i :: l => (∀ k, k ∈ l → k ∉ precs ops ops.size i) ∧ LinX ops l
/-- Every order that is drawn is one of the orders that may be. -/
theorem yin (hty : TyOk P ty) (hsz : ∀ t ti, ty t = some ti → ti.size ≠ 0) {mode : Region.Mode} (hg : zD ops mode = true) {g0 : Ghost} {w0 : World} {nx : Exit → Act → World → Prop} (hgl : V.gl = σ0.gl)
  (hnx : ∀ s' a' w', Q s' → Rel g0 σ0 w0 N s' a' w' → nx .normal a' w') : ∀ (fuel t : Nat) (listed : Array Bool) (acc : List Nat), Listed ops listed → (left ops listed).length = fuel →
   ∃ rest, Region.linearise.go mode ops fuel t listed acc = acc.reverse ++ rest ∧ rest.Perm (left ops listed) ∧ LinX ops rest ∧
    ∀ T L σ a w, DOps P ty V σ0 N ops ops.size Q rest T L σ → Compat V L σ → Rel g0 σ0 w0 N ⟨T, L, σ⟩ a w → opsW P ops nx rest a w := by
 have hself : ∀ {T T' : List (Nat × AV)} {L : List (List AV)} {σ : Store} {a : Act} {w : World}, Same T T' → Rel g0 σ0 w0 N ⟨T, L, σ⟩ a w → Rel g0 σ0 w0 N ⟨T', L, σ⟩ a w := by
  rintro T T' L σ a w hs ⟨g, h1, h2, h3, h4, h5⟩
  refine ⟨g, h1, h2, h3, h4, fun t => ?_⟩
  have := h5 t
  simp only at this ⊢
  rw [← hs t]; exact this
 intro fuel
 induction fuel with
 | zero =>
  intro t listed acc hl hlen
  have he : left ops listed = [] := List.eq_nil_of_length_eq_zero hlen
  refine ⟨[], by simp [Region.linearise.go], by rw [he], trivial, fun T L σ a w hd hc r => ?_⟩
  obtain ⟨T', h1, h2⟩ := hd
  exact hnx _ _ _ h2 (hself h1 r)
 | succ fuel ih =>
  intro t listed acc hl hlen
  have hne : left ops listed ≠ [] := by intro e; rw [e] at hlen; simp at hlen
  obtain ⟨i0, hi0, hp0⟩ := yfT hg hl hne
  simp only [Region.linearise.go]
  generalize hrs : ((List.range ops.size).filter fun i => !listed.getD i true && ((ops[i]?).map (·.after.all fun e => !Region.binds mode e || listed.getD e.on false)).getD false) = rs
  have hmem : ∀ i, i ∈ rs ↔ i ∈ left ops listed ∧ ∀ k, k ∈ edges ops mode i → listed.getD k false = true := by
   intro i; rw [← hrs]; exact yg7 hl
  have hpos : 0 < rs.length := List.length_pos_iff.2 (fun e => by have := (hmem i0).2 ⟨hi0, hp0⟩; rw [e] at this; simp at this)
  have hlt : t % rs.length < rs.length := Nat.mod_lt _ hpos
  rw [List.getElem?_eq_getElem hlt]
  simp only
  have hi := (hmem _).1 (List.getElem_mem hlt)
  generalize rs[t % rs.length] = i at hi
  obtain ⟨hl', c1, c2, hc, hc', hc1, hcp⟩ := yeu hl hi.1 hi.2
  have hilt := ((ZA hl).1 hi.1).1
  obtain ⟨rest, h1, h2, h3, h4⟩ := ih (t / rs.length) (listed.setIfInBounds i true) (i :: acc) hl' (by rw [hc']; rw [hc] at hlen; simp at hlen ⊢; omega)
  refine ⟨i :: rest, by rw [h1]; simp, ?_, ⟨fun k hk hm => ?_, h3⟩, fun T L σ a w hd hcm r => ?_⟩
  ·rw [hc]
   rw [hc'] at h2
   exact (h2.cons i).trans (List.perm_middle.symm)
  ·have hkl := h2.mem_iff.1 hk
   have hkl' : k ∈ left ops listed := by rw [hc]; rw [hc'] at hkl; simp at hkl ⊢; rcases hkl with h | h <;> simp [h]
   have hpa : ∀ k, k ∈ edges ops .any i → listed.getD k false = true := by
    intro k hk
    refine hi.2 k ?_
    unfold edges at hk ⊢
    split at hk
    ·simp only [List.mem_map, List.mem_filter] at hk ⊢
     obtain ⟨e, ⟨he, hb⟩, rfl⟩ := hk
     exact ⟨e, ⟨he, yg3 hb⟩, rfl⟩
    ·exact hk
   have q1 := ybh hl ops.size i hpa k hm
   have q2 := ((ZA (i := k) hl).1 hkl').2
   rw [q1] at q2; cases q2
  ·obtain ⟨oi, hoi⟩ : ∃ o, ops[i]? = some o := ⟨ops[i], by simp [hilt]⟩
   simp only [DOps, if_pos hilt] at hd
   obtain ⟨o, k1, k2, k3⟩ := hd
   exact yeq hty hsz k1 k2 k3 hcm hgl r fun T' L' σ' a' w' q qc qr => h4 T' L' σ' a' w' q qc qr
/-- A drawn region: every order that may be is to be gone through. -/
theorem ylN {id : Nat} {QQ : Exit → St → Prop} {s : St} (hty : TyOk P ty) (hsz : ∀ t ti, ty t = some ti → ti.size ≠ 0) (V : View) (hg1 : zD ops .any = true) (hg2 : zD ops .text = true) (hg3 : zD ops .gc = true) (hgl : V.gl = s.σ.gl) (hc : (∀ (i : Nat) cs, V.L[i]? = some cs → cs ≠ [] → s.L[i]? = some cs) ∧ ∀ (o : Nat) ob, V.objs[o]? = some ob → ob ≠ .box [] → s.σ.objs[o]? = some ob)
  (h : ∀ l, l.Perm (List.range ops.size) → LinX ops l → DOps P ty V σ0 N ops ops.size (QQ .normal) l s.T s.L s.σ) : AWpR ρ P σ0 N (.region id ops true) QQ s := by
 rintro g0 w0 a w ⟨g, r⟩
 have hgl' : V.gl = σ0.gl := hgl.trans r.1.gl
 refine wpIn_region_draw fun t => opsW.wpIn _ ?_
 have hl0 : Listed ops (Array.replicate ops.size false) := by
  refine ⟨by simp, fun j hj => ?_⟩
  simp only [Array.getD_eq_getD_getElem?, Array.getElem?_replicate] at hj
  split at hj <;> simp at hj
 have hleft : left ops (Array.replicate ops.size false) = List.range ops.size := by
  simp only [left]
  refine List.filter_eq_self.2 (fun i hi => ?_)
  simp only [List.mem_range] at hi
  simp [Array.getD_eq_getD_getElem?, Array.getElem?_replicate, hi]
 have hr : RelG g0 σ0 w0 N g s a { w with drawn := w.drawn + 1 } := by
  have k := r.2.1.drewN (w' := { w with drawn := w.drawn + 1 }) rfl
  exact r.later (σ' := s.σ) (L' := s.L) k.2 (fun _ _ h => h) k.1 rfl rfl (fun _ _ => rfl) (Nat.le_refl _) rfl rfl rfl
 have go : ∀ (mode : Region.Mode) (t : Nat), zD ops mode = true → opsW P ops (lift g0 σ0 w0 N QQ) (Region.linearise mode ops t) a { w with drawn := w.drawn + 1 } := by
  intro mode t hg
  obtain ⟨rest, h1, h2, h2', h3⟩ := yin (P := P) (V := V) (σ0 := σ0) (N := N) (Q := QQ .normal) hty hsz (mode := mode) hg (g0 := g0) (w0 := w0) (nx := lift g0 σ0 w0 N QQ) hgl' (fun s' a' w' q r' => ⟨s', q, r'⟩) ops.size t (Array.replicate ops.size false) [] hl0 (by rw [hleft]; simp)
  rw [Region.linearise, h1]
  rw [hleft] at h2
  exact h3 s.T s.L s.σ a _ (h rest h2 h2') ⟨hc.1, hc.2, hgl.symm⟩ ⟨g, hr⟩
 unfold Region.schedule
 split
 ·exact go .any t hg1
 ·split
  ·exact go .text _ hg2
  ·exact go .gc _ hg3
/-- One order tells of another one, where what stands otherwise may be exchanged. -/
theorem yf7 : ∀ (l c : List Nat), l.Perm c → (∀ i, i ∈ l → i < m) → (∀ c1 i, (∃ c2, c = c1 ++ i :: c2) → ∀ k, k ∈ c1 → (∃ l1 l2, l = l1 ++ i :: l2 ∧ k ∈ l2) → ∃ ok oi, ops[k]? = some ok ∧ ops[i]? = some oi ∧ Zc ops ok oi = true) →
  ∀ {T : List (Nat × AV)} {L : List (List AV)} {σ : Store}, DOps P ty V σ0 N ops m Q c T L σ → DOps P ty V σ0 N ops m Q l T L σ
 | [], c, hp, _, _, T, L, σ, h => by have := hp.symm.eq_nil; subst this; exact h
 | i :: l, c, hp, hm, hs, T, L, σ, h => by
  have hic : i ∈ c := hp.mem_iff.1 (by simp)
  obtain ⟨c1, c2, rfl⟩ := List.append_of_mem hic
  have hlp : l.Perm (c1 ++ c2) := (hp.trans List.perm_middle).cons_inv
  have hmi := hm i (by simp)
  have hk1 : ∀ k, k ∈ c1 → ∃ ok oi, ops[k]? = some ok ∧ ops[i]? = some oi ∧ Zc ops ok oi = true := fun k hk =>
   hs c1 i ⟨c2, rfl⟩ k hk ⟨[], l, rfl, hlp.mem_iff.2 (by simp [hk])⟩
  have hfr : DOps P ty V σ0 N ops m Q (i :: (c1 ++ c2)) T L σ := by
   cases c1 with
   | nil => exact h
   | cons k0 c1 =>
    obtain ⟨_, oi, _, hoi, _⟩ := hk1 k0 (by simp)
    refine ycO hoi hmi (k0 :: c1) (fun k hk => ⟨hm k (by simp; exact .inr (hlp.mem_iff.2 (by simp at hk ⊢; rcases hk with h | h <;> simp [h]))), fun ok hok => ?_⟩) h
    obtain ⟨ok', oi', h1, h2, h3⟩ := hk1 k hk
    rw [hok] at h1; cases h1
    rw [hoi] at h2; cases h2
    exact h3
  simp only [DOps, if_pos hmi] at hfr ⊢
  obtain ⟨o, h1, h2, h3⟩ := hfr
  refine ⟨o, h1, h2, Zi (fun T L σ q => yf7 l (c1 ++ c2) hlp (fun j hj => hm j (by simp [hj])) (fun d1 j hd k hk hl => ?_) q) h3⟩
  obtain ⟨d2, hd⟩ := hd
  obtain ⟨l1, l2, hl1, hl2⟩ := hl
  rcases List.append_eq_append_iff.1 hd with ⟨a', ha1, ha2⟩ | ⟨a', ha1, ha2⟩
  ·-- c1 = short: d1 = c1 ++ a'
   refine hs (c1 ++ i :: a') j ⟨d2, by rw [ha2]; simp⟩ k (by rw [ha1] at hk; simp at hk ⊢; rcases hk with h | h <;> simp [h]) ⟨i :: l1, l2, by rw [hl1]; rfl, hl2⟩
  ·cases a' with
   | nil =>
    simp at ha1 ha2
    refine hs (c1 ++ [i]) j ⟨d2, by rw [← ha2]; simp⟩ k (by rw [ha1]; simp [hk]) ⟨i :: l1, l2, by rw [hl1]; rfl, hl2⟩
   | cons b a' =>
    simp at ha2
    obtain ⟨rfl, ha3⟩ := ha2
    refine hs d1 j ⟨a' ++ i :: c2, by rw [ha1]; simp⟩ k hk ⟨i :: l1, l2, by rw [hl1]; rfl, hl2⟩
/-- What stands in no order in a list may be exchanged, but for some pairs. -/
def yd2 (ops : Array Oper) (bad : List (Nat × Nat)) : List Nat → Bool
 | [] => true
 | k :: c => (c.all fun i => (precs ops ops.size i).contains k || bad.contains (k, i) || (match ops[k]?, ops[i]? with | some ok, some oi => Zc ops ok oi | _, _ => false)) && yd2 ops bad c
theorem yfl {bad : List (Nat × Nat)} : ∀ {c : List Nat}, yd2 ops bad c = true → ∀ c1 i c2, c = c1 ++ i :: c2 → ∀ k, k ∈ c1 → k ∈ precs ops ops.size i ∨ (k, i) ∈ bad ∨ ∃ ok oi, ops[k]? = some ok ∧ ops[i]? = some oi ∧ Zc ops ok oi = true
 | [], _, c1, i, c2, he, k, hk => by simp at he
 | a :: c, h, c1, i, c2, he, k, hk => by
  simp only [yd2, Bool.and_eq_true, List.all_eq_true] at h
  cases c1 with
  | nil => simp at hk
  | cons b c1 =>
   simp only [List.cons_append, List.cons.injEq] at he
   obtain ⟨rfl, rfl⟩ := he
   rcases List.mem_cons.1 hk with rfl | hk
   ·have := h.1 i (by simp)
    simp only [Bool.or_eq_true, List.contains_eq_mem, decide_eq_true_eq] at this
    rcases this with (h1 | h1) | h1
    ·exact .inl h1
    ·exact .inr (.inl h1)
    ·refine .inr (.inr ?_)
     split at h1
     ·exact ⟨_, _, ‹_›, ‹_›, h1⟩
     ·cases h1
   ·exact yfl h.2 c1 i c2 rfl k hk
theorem ykh : ∀ {l : List Nat}, LinX ops l → ∀ l1 i l2, l = l1 ++ i :: l2 → ∀ k, k ∈ l2 → k ∉ precs ops ops.size i
 | [], _, l1, i, l2, he => by simp at he
 | a :: l, h, l1, i, l2, he => by
  cases l1 with
  | nil => simp at he; obtain ⟨rfl, rfl⟩ := he; exact h.1
  | cons b l1 => simp at he; exact ykh h.2 l1 i l2 he.2
theorem yrC {l : List Nat} (hn : l.Nodup) {l1 l2 : List Nat} {i k : Nat} (he : l = l1 ++ i :: l2) (hk : k ∈ l2) : l.idxOf i < l.idxOf k := by
 subst he
 have h1 := List.nodup_append.1 hn
 have hi1 : i ∉ l1 := fun h => h1.2.2 i h i (by simp) rfl
 have hk1 : k ∉ l1 := fun h => h1.2.2 k h k (by simp [hk]) rfl
 have hik : i ≠ k := fun e => by subst e; exact (List.nodup_cons.1 h1.2.1).1 hk
 rw [List.idxOf_append, List.idxOf_append, if_neg hi1, if_neg hk1, List.idxOf_cons_self, List.idxOf_cons]
 have : (i == k) = false := by simpa using hik
 rw [this]; simp
theorem yrR : ∀ l : List Nat, (∀ i, i ∈ l → i < ops.size) → l.map (ops[·]?) = (l.filterMap (ops[·]?)).map some := by
 intro l
 induction l with
 | nil => intro _; rfl
 | cons i l ih =>
  intro hl
  have hi := hl i (by simp)
  have h5 := ih fun a ha => hl a (List.mem_cons_of_mem _ ha)
  rw [List.map_cons, List.filterMap_cons, h5, Array.getElem?_eq_getElem hi]
  rfl
/-- A drawn region with two pairs that do not commute. -/
theorem yk1 {id : Nat} {QQ : Exit → St → Prop} {s : St} (hty : TyOk P ty) (hsz : ∀ t ti, ty t = some ti → ti.size ≠ 0) (p q p' q' : Nat) (f : Bool → Bool → List Nat)
  (hok : (zD ops .any && zD ops .text && zD ops .gc && [true, false].all fun x => [true, false].all fun y => yd2 ops [if x then (p, q) else (q, p), if y then (p', q') else (q', p')] (f x y) && List.isPerm (f x y) (List.range ops.size)) = true)
  (h : ∀ x y, UL P ty (yar s) N ops ((f x y).filterMap (ops[·]?)) (QQ .normal) s) : AWpR ρ P σ0 N (.region id ops true) QQ s := by
 simp only [Bool.and_eq_true, List.all_eq_true] at hok
 obtain ⟨⟨⟨g1, g2⟩, g3⟩, hall⟩ := hok
 refine ylN hty hsz (yar s) g1 g2 g3 rfl ⟨fun i cs h _ => h, fun o ob h _ => h⟩ fun l hp hl => ?_
 have hn : l.Nodup := hp.nodup_iff.2 List.nodup_range
 have hb : ∀ x : Bool, x ∈ [true, false] := fun x => by cases x <;> simp
 have hc := hall (decide (l.idxOf p < l.idxOf q)) (hb _) (decide (l.idxOf p' < l.idxOf q')) (hb _)
 generalize hx : decide (l.idxOf p < l.idxOf q) = x at hc
 generalize hy : decide (l.idxOf p' < l.idxOf q') = y at hc
 have hpc : (f x y).Perm (List.range ops.size) := List.isPerm_iff.1 hc.2
 have hlt : ∀ i, i ∈ f x y → i < ops.size := fun i hi => List.mem_range.1 (hpc.mem_iff.1 hi)
 refine yf7 l (f x y) (hp.trans hpc.symm) (fun i hi => List.mem_range.1 (hp.mem_iff.1 hi)) (fun c1 i hc1 k hk hl1 => ?_) (ygY _ (f x y) s (yrR _ hlt) hlt (h x y))
 obtain ⟨c2, hc1⟩ := hc1
 obtain ⟨l1, l2, e1, e2⟩ := hl1
 rcases yfl hc.1 c1 i c2 hc1 k hk with h1 | h1 | h1
 ·exact absurd h1 (ykh hl l1 i l2 e1 k e2)
 ·exfalso
  have hlt := yrC hn e1 e2
  simp only [List.mem_cons, List.not_mem_nil, or_false] at h1
  rcases h1 with h1 | h1
  ·cases x with
   | true => simp at hx h1; obtain ⟨rfl, rfl⟩ := h1; omega
   | false => simp at hx h1; obtain ⟨rfl, rfl⟩ := h1; omega
  ·cases y with
   | true => simp at hy h1; obtain ⟨rfl, rfl⟩ := h1; omega
   | false => simp at hy h1; obtain ⟨rfl, rfl⟩ := h1; omega
 ·exact h1
theorem yg9 : ∀ (n : Nat) (l r : List Nat), l.Perm r → r.length = n → l ∈ perms n r
 | 0, l, r, hp, hn => by
  have : r = [] := List.eq_nil_of_length_eq_zero hn
  subst this
  have := hp.eq_nil
  subst this
  simp [perms]
 | n + 1, [], r, hp, hn => by have := hp.length_eq; simp at this; omega
 | n + 1, i :: l, r, hp, hn => by
  have hi : i ∈ r := hp.mem_iff.1 (by simp)
  rw [perms]
  refine List.mem_flatMap.2 ⟨i, hi, List.mem_map.2 ⟨l, yg9 n l (r.erase i) ?_ ?_, rfl⟩⟩
  ·have := hp.erase i
   simpa using this
  ·rw [List.length_erase_of_mem hi]; omega
def yhS (ops : Array Oper) : List Nat → Bool
 | [] => true
 | i :: l => (l.all fun k => !(precs ops ops.size i).contains k) && yhS ops l
theorem yh7 : ∀ {l : List Nat}, LinX ops l → yhS ops l = true
 | [], _ => rfl
 | i :: l, h => by
  simp only [yhS, Bool.and_eq_true, List.all_eq_true, Bool.not_eq_true', List.contains_eq_mem, decide_eq_false_iff_not]
  exact ⟨h.1, yh7 h.2⟩
/-- A small drawn region: every order. -/
theorem yjO {id : Nat} {QQ : Exit → St → Prop} {s : St} (hty : TyOk P ty) (hsz : ∀ t ti, ty t = some ti → ti.size ≠ 0) (ls : List (List Nat))
  (hok : (zD ops .any && zD ops .text && zD ops .gc && ((perms ops.size (List.range ops.size)).all fun l => !yhS ops l || ls.contains l)) = true)
  (h : ∀ l, l ∈ ls → yz P σ0 N ops (l.filterMap (ops[·]?)) (QQ .normal) s) : AWpR ρ P σ0 N (.region id ops true) QQ s := by
 simp only [Bool.and_eq_true, List.all_eq_true] at hok
 obtain ⟨⟨⟨g1, g2⟩, g3⟩, hall⟩ := hok
 rintro g0 w0 a w ⟨g, r⟩
 refine wpIn_region_draw fun t => opsW.wpIn _ ?_
 have hl0 : Listed ops (Array.replicate ops.size false) := by
  refine ⟨by simp, fun j hj => ?_⟩
  simp only [Array.getD_eq_getD_getElem?, Array.getElem?_replicate] at hj
  split at hj <;> simp at hj
 have hleft : left ops (Array.replicate ops.size false) = List.range ops.size := by
  simp only [left]
  refine List.filter_eq_self.2 (fun i hi => ?_)
  simp only [List.mem_range] at hi
  simp [Array.getD_eq_getD_getElem?, Array.getElem?_replicate, hi]
 have hr : RelG g0 σ0 w0 N g s a { w with drawn := w.drawn + 1 } := by
  have k := r.2.1.drewN (w' := { w with drawn := w.drawn + 1 }) rfl
  exact r.later (σ' := s.σ) (L' := s.L) k.2 (fun _ _ h => h) k.1 rfl rfl (fun _ _ => rfl) (Nat.le_refl _) rfl rfl rfl
 have go : ∀ (mode : Region.Mode) (t : Nat), zD ops mode = true → opsW P ops (lift g0 σ0 w0 N QQ) (Region.linearise mode ops t) a { w with drawn := w.drawn + 1 } := by
  intro mode t hg
  obtain ⟨rest, h1, h2, h2', _⟩ := yin (P := P) (V := yar s) (σ0 := σ0) (N := N) (Q := fun _ => False) hty hsz (mode := mode) hg (g0 := g0) (w0 := w0) (nx := lift g0 σ0 w0 N QQ) r.1.gl (fun s' a' w' q r' => q.elim) ops.size t (Array.replicate ops.size false) [] hl0 (by rw [hleft]; simp)
  rw [Region.linearise, h1]
  rw [hleft] at h2
  have hm := yg9 ops.size rest (List.range ops.size) h2 (by simp)
  have := hall rest hm
  simp only [yh7 h2', Bool.not_true, Bool.false_or, List.contains_eq_mem, decide_eq_true_eq] at this
  have hL := h rest this
  refine hL rest ?_ g0 w0 a _ (lift g0 σ0 w0 N QQ) ⟨g, hr⟩ (fun s' a' w' q r' => ⟨s', q, r'⟩)
  have hlt : ∀ i, i ∈ rest → i < ops.size := fun i hi => List.mem_range.1 (h2.mem_iff.1 hi)
  have key : ∀ l : List Nat, (∀ i, i ∈ l → i < ops.size) → l.map (ops[·]?) = (l.filterMap (ops[·]?)).map some := by
   intro l
   induction l with
   | nil => intro _; rfl
   | cons i l ih =>
    intro hl
    have hi := hl i (by simp)
    have h5 := ih fun a ha => hl a (List.mem_cons_of_mem _ ha)
    rw [List.map_cons, List.filterMap_cons, h5, Array.getElem?_eq_getElem hi]
    rfl
  exact key rest hlt
 unfold Region.schedule
 split
 ·exact go .any t g1
 ·split
  ·exact go .text _ g2
  ·exact go .gc _ g3
end
end Go.Aw

namespace Go.Aw
open Go
/-- A number behind a space. -/
def spS (i : Int) : ByteArray := ⟨#[32]⟩ ++ z8 i
def bkK (p : List Int) (n : Int) (k : Nat) : ByteArray := (p.take k).foldl (fun s i => s ++ spS i) (z8 n)
/-- A binding as text. -/
def bkS (p : List Int) (n : Int) : ByteArray := bkK p n p.length
theorem ycK (p : List Int) (n : Int) : bkK p n 0 = z8 n := rfl
theorem yig {p : List Int} {n : Int} {k : Nat} {i : Int} (h : p[k]? = some i) : bkK p n (k + 1) = bkK p n k ++ spS i := by
 unfold bkK
 rw [yA h, List.foldl_append]; rfl
theorem yoe {p : List Int} {n : Int} (hn : -9223372036854775808 ≤ n ∧ n ≤ 9223372036854775807) (hp : ∀ j, j ∈ p → 0 ≤ j ∧ j ≤ 1000000000) : ∀ k, k ≤ p.length → (bkK p n k).size ≤ 21 + 22 * k := by
 intro k
 induction k with
 | zero => intro _; rw [ycK]; have := Z7 hn.1 hn.2; omega
 | succ k ih =>
  intro hk
  have hx : p[k]? = some (p[k]'(by omega)) := by simp
  have hj := hp _ (List.mem_of_getElem? hx)
  rw [yig hx]
  have h1 := ih (by omega)
  have h2 := Z7 (n := p[k]'(by omega)) (by omega) (by omega)
  have h3 : (spS (p[k]'(by omega))).size = 1 + (z8 (p[k]'(by omega))).size := by unfold spS; rw [ByteArray.size_append]; rfl
  rw [ByteArray.size_append]; omega
mutual
/-- All symbols in data. -/
def symS : D → List ByteArray → List ByteArray
 | .mk k _ t l, S => yV l (if k = 2 then addS S t else S)
def yV : List D → List ByteArray → List ByteArray
 | [], S => S
 | d :: l, S => yV l (symS d S)
end
theorem ybL : ∀ (l : List D) (S : List ByteArray), yV l S = l.foldl (fun S d => symS d S) S
 | [], S => rfl
 | d :: l, S => by rw [yV, ybL l]; rfl
theorem ykD (d : D) (S : List ByteArray) : symS d S = yV d.kids (if d.kind = 2 then addS S d.text else S) := by cases d; rfl
theorem ylp {l : List D} {k : Nat} {x : D} {S : List ByteArray} (h : l[k]? = some x) : yV (l.take (k + 1)) S = yV x.kids (if x.kind = 2 then addS (yV (l.take k) S) x.text else yV (l.take k) S) := by
 rw [ybL, yA h, List.foldl_append, List.foldl_cons, List.foldl_nil, ykD, ← ybL]
theorem yeX (d : D) : ∀ S, (symS d S).length ≤ S.length + d.size := by
 induction d using D.ind with
 | _ k n t l ih =>
  intro S
  rw [ykD]
  show (yV l (if k = 2 then addS S t else S)).length ≤ _
  have h0 : (if k = 2 then addS S t else S).length ≤ S.length + 1 := by
   split
   ·exact ycr _ _
   ·omega
  generalize (if k = 2 then addS S t else S) = R at h0
  have : ∀ l : List D, (∀ x, x ∈ l → ∀ S, (symS x S).length ≤ S.length + x.size) → ∀ R, (yV l R).length ≤ R.length + D.sizes l := by
   intro l
   induction l with
   | nil => intro _ R; simp [yV]
   | cons x l ihl =>
    intro h R
    have h1 := h x (by simp) R
    have h2 := ihl (fun y hy => h y (by simp [hy])) (symS x R)
    simp only [yV, D.sizes]; omega
  have h1 := this l ih R
  simp only [D.size]; omega
theorem ym8 (l : List D) (S : List ByteArray) : (yV l S).length ≤ S.length + D.sizes l := by
 have := yeX (.mk 0 0 ⟨#[]⟩ l) S
 induction l generalizing S with
 | nil => simp [yV]
 | cons x l ih =>
  have h1 := yeX x S
  have h2 := ih (symS x S) (yeX _ _)
  simp only [yV, D.sizes]; omega
/-- The next name that is not among others; then it is. -/
def frS (S : List ByteArray) (n : Nat) : ByteArray := vS (nxtV S n : Int)
/-- New names of bindings around a place where a name of the other expression would be caught. -/
def sbTo (inn arn : List ByteArray) (p : List Int) (i : Int) (x : ByteArray) (S : List ByteArray) : ByteArray × List ByteArray :=
 if (memB inn x && memB arn (bkS p i)) = true then (frS S 0, addS S (frS S 0)) else (x, S)
theorem yoc (inn arn : List ByteArray) (p : List Int) (i : Int) (x : ByteArray) (S : List ByteArray) : (sbTo inn arn p i x S).2.length ≤ S.length + 1 := by
 unfold sbTo
 split
 ·exact ycr _ _
 ·exact Nat.le_succ _
end Go.Aw

namespace Go.Aw
open Go
section
variable {β : Type} {S : Type} (eb : β → PV)
variable (nam : D → List Int → List ByteArray → Int → S → List β × S) (vari : D → List Int → List (ByteArray × β) → S → S)
/-- The walk: what is bound at names, what is done at variables, in preorder. -/
def fk : D → List Int → List (ByteArray × β) → S → S :=
 scata (fun d rs p sc s =>
  if (yb d == 2) = true then vari d p sc s
  else if (yb d == 5 || yb d == 9) = true then
   match rs with
   | [q] => let r := nam d p (ownS d) 0 s; q.2 (p ++ q.1.p) (yB sc (ownS d) r.1) r.2
   | _ => s
  else if (yb d == 6) = true then
   match rs with
   | [q, q'] => let r := nam d p (ownS d) 0 s; q'.2 (p ++ q'.1.p) (yB sc (ownS d) r.1) (q.2 (p ++ q.1.p) sc r.2)
   | _ => s
  else if (yb d == 7) = true then
   let r := nam d p (ownS d) 0 s
   let inn := yB sc (ownS d) r.1
   let s' := ((d1 d.kids).kids.zip rs).zipIdx.foldl (fun s q =>
    let r2 := nam d p (parS q.1.1) (yW (d1 d.kids).kids q.2) s
    q.1.2.2 (p ++ q.1.2.1.p) (yB inn (parS q.1.1) r2.1) r2.2) r.2
   match rs.getLast? with
   | some q => q.2 (p ++ q.1.p) inn s'
   | none => s'
  else rs.foldl (fun s q => q.2 (p ++ q.1.p) sc s) s)
theorem yfX (d : D) (p : List Int) (sc : List (ByteArray × β)) (s : S) : fk nam vari d p sc s =
  if (yb d == 2) = true then vari d p sc s
  else if (yb d == 5 || yb d == 9) = true then
   match (subs d).map fun q => (q.1, fk nam vari q.2) with
   | [q] => let r := nam d p (ownS d) 0 s; q.2 (p ++ q.1.p) (yB sc (ownS d) r.1) r.2
   | _ => s
  else if (yb d == 6) = true then
   match (subs d).map fun q => (q.1, fk nam vari q.2) with
   | [q, q'] => let r := nam d p (ownS d) 0 s; q'.2 (p ++ q'.1.p) (yB sc (ownS d) r.1) (q.2 (p ++ q.1.p) sc r.2)
   | _ => s
  else if (yb d == 7) = true then
   let r := nam d p (ownS d) 0 s
   let inn := yB sc (ownS d) r.1
   let s' := ((d1 d.kids).kids.zip ((subs d).map fun q => (q.1, fk nam vari q.2))).zipIdx.foldl (fun s q =>
    let r2 := nam d p (parS q.1.1) (yW (d1 d.kids).kids q.2) s
    q.1.2.2 (p ++ q.1.2.1.p) (yB inn (parS q.1.1) r2.1) r2.2) r.2
   match ((subs d).map fun q => (q.1, fk nam vari q.2)).getLast? with
   | some q => q.2 (p ++ q.1.p) inn s'
   | none => s'
  else ((subs d).map fun q => (q.1, fk nam vari q.2)).foldl (fun s q => q.2 (p ++ q.1.p) sc s) s := by
 show scata (β := List Int → List (ByteArray × β) → S → S) _ d p sc s = _
 rw [Zg]; rfl
theorem ykF {d : D} {p : List Int} {sc : List (ByteArray × β)} {s : S} (h : yb d = 2) : fk nam vari d p sc s = vari d p sc s := by
 rw [yfX, if_pos (by simpa using h)]
theorem ypv {d : D} {p : List Int} {sc : List (ByteArray × β)} {s : S} (h : yb d = 5 ∨ yb d = 9) :
  fk nam vari d p sc s = fk nam vari (d2 d.kids) (p ++ [2]) (yB sc (ownS d) (nam d p (ownS d) 0 s).1) (nam d p (ownS d) 0 s).2 := by
 rw [yfX, if_neg (by simp; omega), if_pos (by simpa using h), y5 h]; rfl
theorem ymn {d : D} {p : List Int} {sc : List (ByteArray × β)} {s : S} (h : yb d = 6) :
  fk nam vari d p sc s = fk nam vari (d.kids.getD 3 dnone) (p ++ [3]) (yB sc (ownS d) (nam d p (ownS d) 0 s).1) (fk nam vari (d2 d.kids) (p ++ [2]) sc (nam d p (ownS d) 0 s).2) := by
 rw [yfX, if_neg (by simp; omega), if_neg (by simp; omega), if_pos (by simpa using h), yQ h]; rfl
/-- What the first definitions of a rec leave. -/
def fkd (d : D) (p : List Int) (inn : List (ByteArray × β)) (k : Nat) (s : S) : S :=
 ((d1 d.kids).kids.take k).zipIdx.foldl (fun s q =>
  let r := nam d p (parS q.1) (yW (d1 d.kids).kids q.2) s
  fk nam vari (d2 q.1.kids) (p ++ [1, (q.2 : Int), 2]) (yB inn (parS q.1) r.1) r.2) s
theorem yfi {d : D} {p : List Int} {inn : List (ByteArray × β)} {k : Nat} {s : S} {x : D} (h : (d1 d.kids).kids[k]? = some x) :
  fkd nam vari d p inn (k + 1) s = fk nam vari (d2 x.kids) (p ++ [1, (k : Int), 2]) (yB inn (parS x) (nam d p (parS x) (yW (d1 d.kids).kids k) (fkd nam vari d p inn k s)).1) (nam d p (parS x) (yW (d1 d.kids).kids k) (fkd nam vari d p inn k s)).2 := by
 have hk := (List.getElem?_eq_some_iff.1 h).1
 unfold fkd
 rw [yA h, List.zipIdx_append, List.foldl_append]
 have e : ([x] : List D).zipIdx (0 + ((d1 d.kids).kids.take k).length) = [(x, k)] := by simp; omega
 rw [e]; rfl
theorem yl8 {d : D} {p : List Int} {sc : List (ByteArray × β)} {s : S} (h : yb d = 7) :
  fk nam vari d p sc s = fk nam vari (d2 d.kids) (p ++ [2]) (yB sc (ownS d) (nam d p (ownS d) 0 s).1) (fkd nam vari d p (yB sc (ownS d) (nam d p (ownS d) 0 s).1) (d1 d.kids).kids.length (nam d p (ownS d) 0 s).2) := by
 rw [yfX, if_neg (by simp; omega), if_neg (by simp; omega), if_neg (by simp; omega), if_pos (by simpa using h), y9 h]
 simp only [List.map_append, List.map_cons, List.map_nil, List.getLast?_append, List.getLast?_singleton, Option.or_some, Option.some_or, yer, List.map_map]
 rw [show ((fun (q : Sub × D) => (q.1, fk nam vari q.2)) ∘ fun (q : D × Nat) => subR d q.2 q.1) = fun q => ((fun (x : D) (i : Nat) => ((subR d i x).1, fk nam vari (subR d i x).2)) q.1 q.2) from rfl]
 rw [ycu (fun (x : D) (i : Nat) => ((subR d i x).1, fk nam vari (subR d i x).2)), ybO, List.foldl_map]
 unfold fkd
 rw [List.take_length]; rfl
/-- What the first parts leave, where nothing is bound. -/
def fks (d : D) (p : List Int) (sc : List (ByteArray × β)) (k : Nat) (s : S) : S := ((subs d).take k).foldl (fun s q => fk nam vari q.2 (p ++ q.1.p) sc s) s
theorem yff {d : D} {p : List Int} {sc : List (ByteArray × β)} {k : Nat} {s : S} {q : Sub × D} (h : (subs d)[k]? = some q) : fks nam vari d p sc (k + 1) s = fk nam vari q.2 (p ++ q.1.p) sc (fks nam vari d p sc k s) := by
 unfold fks
 rw [yA h, List.foldl_append]; rfl
theorem ykt {d : D} {p : List Int} {sc : List (ByteArray × β)} {s : S} (h : yb d ≠ 2 ∧ yb d ≠ 5 ∧ yb d ≠ 9 ∧ yb d ≠ 6 ∧ yb d ≠ 7) : fks nam vari d p sc (subs d).length s = fk nam vari d p sc s := by
 rw [yfX, if_neg (by simp; omega), if_neg (by simp; omega), if_neg (by simp; omega), if_neg (by simp; omega), List.foldl_map]
 unfold fks
 rw [List.take_length]
end
/-- The bindings of an expression's names, as text. -/
def kyS (p : List Int) (ns : List ByteArray) (n : Int) : List ByteArray := (List.range ns.length).map fun (i : Nat) => bkS p (n + (i : Int))
theorem ygj (p : List Int) (ns : List ByteArray) (n : Int) : (kyS p ns n).length = ns.length := by simp [kyS]
theorem yoL (p : List Int) (ns : List ByteArray) (n : Int) {k : Nat} (h : k < ns.length) : (kyS p ns n).take (k + 1) = (kyS p ns n).take k ++ [bkS p (n + (k : Int))] := by
 apply yA
 simp [kyS, h]
abbrev FSt := List (List Int) × List ByteArray
def fndN (_d : D) (p : List Int) (ns : List ByteArray) (n : Int) (s : FSt) : List ByteArray × FSt := (kyS p ns n, s)
def fndV (x : ByteArray) (d : D) (p : List Int) (sc : List (ByteArray × ByteArray)) (s : FSt) : FSt :=
 if (decide (d.text = x) && !(YF sc x).isSome) = true then (s.1 ++ [p], (sc.map (·.2)).foldl addS s.2) else s
/-- The places at which a name is free, and the bindings around them. -/
def fnd (x : ByteArray) : D → List Int → List (ByteArray × ByteArray) → FSt → FSt := fk fndN (fndV x)
theorem ycE (x : ByteArray) : ∀ (d : D) (p : List Int) (sc : List (ByteArray × ByteArray)) (s : FSt), s.1.length ≤ (fnd x d p sc s).1.length := by
 intro d
 unfold fnd
 induction d using D.indS with
 | h d ih =>
  intro p sc s
  by_cases h2 : yb d = 2
  ·rw [ykF _ _ h2]; unfold fndV; split
   ·simp
   ·exact Nat.le_refl _
  by_cases h5 : yb d = 5 ∨ yb d = 9
  ·rw [ypv _ _ h5]
   have hq : subL d 2 (d2 d.kids) ∈ subs d := by rw [y5 h5]; simp
   exact ih _ hq _ _ s
  by_cases h6 : yb d = 6
  ·rw [ymn _ _ h6]
   have hq : (⟨[2], []⟩, d2 d.kids) ∈ subs d := by rw [yQ h6]; simp
   have hq3 : subL d 3 (d.kids.getD 3 dnone) ∈ subs d := by rw [yQ h6]; simp
   exact Nat.le_trans (ih _ hq (p ++ [2]) sc s) (ih _ hq3 _ _ _)
  by_cases h7 : yb d = 7
  ·rw [yl8 _ _ h7]
   have hq : subL d 2 (d2 d.kids) ∈ subs d := by rw [y9 h7]; simp
   refine Nat.le_trans ?_ (ih _ hq _ _ _)
   have key : ∀ (inn : List (ByteArray × ByteArray)) (k : Nat), k ≤ (d1 d.kids).kids.length → s.1.length ≤ (fkd fndN (fndV x) d p inn k s).1.length := by
    intro inn k
    induction k with
    | zero => intro _; exact Nat.le_refl _
    | succ k ihk =>
     intro hk
     have hx : (d1 d.kids).kids[k]? = some ((d1 d.kids).kids[k]'(by omega)) := by simp
     rw [yfi _ _ hx]
     have hm : subR d k ((d1 d.kids).kids[k]'(by omega)) ∈ subs d := by rw [y9 h7]; exact List.mem_append_left _ (List.mem_of_getElem? (by rw [zG, hx]; rfl))
     exact Nat.le_trans (ihk (by omega)) (ih _ hm _ _ _)
   exact key _ _ (Nat.le_refl _)
  ·have hr : yb d ≠ 2 ∧ yb d ≠ 5 ∧ yb d ≠ 9 ∧ yb d ≠ 6 ∧ yb d ≠ 7 := by omega
   rw [← ykt fndN (fndV x) hr]
   have key : ∀ k, k ≤ (subs d).length → s.1.length ≤ (fks fndN (fndV x) d p sc k s).1.length := by
    intro k
    induction k with
    | zero => intro _; exact Nat.le_refl _
    | succ k ihk =>
     intro hk
     have hx : (subs d)[k]? = some ((subs d)[k]'(by omega)) := by simp
     rw [yff _ _ hx]
     exact Nat.le_trans (ihk (by omega)) (ih _ (List.mem_of_getElem? hx) _ _ _)
   exact key _ (Nat.le_refl _)
theorem yoy (x : ByteArray) (d : D) (p : List Int) (inn : List (ByteArray × ByteArray)) (s : FSt) {j : Nat} : ∀ {k : Nat}, j ≤ k → k ≤ (d1 d.kids).kids.length → (fkd fndN (fndV x) d p inn j s).1.length ≤ (fkd fndN (fndV x) d p inn k s).1.length := by
 intro k hjk
 induction hjk with
 | refl => intro _; exact Nat.le_refl _
 | @step k hjk ih =>
  intro hk
  have hk : k + 1 ≤ (d1 d.kids).kids.length := hk
  have hx : (d1 d.kids).kids[k]? = some ((d1 d.kids).kids[k]'(by omega)) := by simp
  rw [yfi _ _ hx]
  exact Nat.le_trans (ih (by omega)) (ycE x _ _ _ _)
theorem yo8 (x : ByteArray) (d : D) (p : List Int) (sc : List (ByteArray × ByteArray)) (s : FSt) {j : Nat} : ∀ {k : Nat}, j ≤ k → k ≤ (subs d).length → (fks fndN (fndV x) d p sc j s).1.length ≤ (fks fndN (fndV x) d p sc k s).1.length := by
 intro k hjk
 induction hjk with
 | refl => intro _; exact Nat.le_refl _
 | @step k hjk ih =>
  intro hk
  have hk : k + 1 ≤ (subs d).length := hk
  have hx : (subs d)[k]? = some ((subs d)[k]'(by omega)) := by simp
  rw [yff _ _ hx]
  exact Nat.le_trans (ih (by omega)) (ycE x _ _ _ _)
theorem ynQ {d : D} (hd : d.size ≤ 100000000) {q : Sub × D} (h : q ∈ subs d) : ∀ j, j ∈ q.1.p → 0 ≤ j ∧ j ≤ 1000000000 := ydZ hd (D.sub_subs h)
/-! ### where the places and the bindings are kept -/
def foU (opl om tk : Nat) (s : FSt) : List (Nat × AObj) := [(opl, .box [.acc (s.1.map wPV) tk]), (om, .map (tK s.2) (tV s.2))]
def foS (opl om tk : Nat) (Y : Store) (s : FSt) : Store := ⟨Y.gl, yM Y.objs (foU opl om tk s), Y.toks.modify tk fun t => { t with n := s.1.length }⟩
def FHas (T : TypeId) (opl om tk : Nat) (Y : Store) (s : FSt) : Prop := HasU Y (foU opl om tk s) ∧ Y.toks[tk]? = some ⟨s.1.length, T, 1⟩
def foX (x : ByteArray) (ox opl oar om ov : Nat) (vf : FuncId) : List (Nat × AObj) := [(ox, .box [.pv (.str x)]), (oar, .box [.map om]), (ov, .box [.func (.func vf) [.ptr ox 0, .ptr opl 0, .ptr oar 0, .ptr ov 0]])]
structure FnH (x : ByteArray) (ox opl oar om ov : Nat) (vf : FuncId) : Prop where
 hne : opl ≠ om
 hX : ∀ q, q ∈ foX x ox opl oar om ov vf → q.1 ∉ [opl, om]
section
variable {T : TypeId} {x : ByteArray} {ox opl oar om ov tk : Nat} {vf : FuncId} {Y : Store} {s s2 : FSt}
theorem Zy : (foU opl om tk s).map (·.1) = [opl, om] := rfl
theorem FHas.lt (h : FHas T opl om tk Y s) {i : Nat} (hi : i ∈ [opl, om]) : i < Y.objs.length := by
 rw [← Zy (tk := tk) (s := s)] at hi
 obtain ⟨q, hq, rfl⟩ := List.mem_map.1 hi
 exact h.1.lt hq
theorem FHas.ltk (h : FHas T opl om tk Y s) : tk < Y.toks.length := (List.getElem?_eq_some_iff.1 h.2).1
theorem zh : (foS opl om tk Y s).gl = Y.gl := rfl
theorem ycI : (foS opl om tk Y s).objs = (updS Y (foU opl om tk s)).objs := rfl
theorem ZW {i : Nat} (h : i ∉ [opl, om]) : (foS opl om tk Y s).objs[i]? = Y.objs[i]? := zm h
theorem yg2 {α : Type} {l : List α} {k : Nat} {x : α} (f : α → α) (h : l[k]? = some x) : l.modify k f = l.set k (f x) := by
 apply List.ext_getElem?
 intro i
 rw [List.getElem?_modify, List.getElem?_set]
 have hl := (List.getElem?_eq_some_iff.1 h).1
 split
 ·subst_vars
  rw [h]; rfl
 ·cases l[i]? <;> rfl
theorem yfd {n : Nat} (h : Y.toks[tk]? = some ⟨n, T, 1⟩) : (foS opl om tk Y s).toks = Y.toks.set tk ⟨s.1.length, T, 1⟩ := yg2 _ h
theorem ycl {n : Nat} (h : Y.toks[tk]? = some ⟨n, T, 1⟩) : foS opl om tk Y s = ⟨Y.gl, yM Y.objs (foU opl om tk s), Y.toks.set tk ⟨s.1.length, T, 1⟩⟩ := by
 show (⟨Y.gl, yM Y.objs (foU opl om tk s), (foS opl om tk Y s).toks⟩ : Store) = _
 rw [yfd h]
theorem FHas.self (h : FHas T opl om tk Y s) : foS opl om tk Y s = Y := by
 rw [ycl h.2, yan h.1]
 have : Y.toks.set tk ⟨s.1.length, T, 1⟩ = Y.toks := by
  apply List.ext_getElem?
  intro i
  rw [List.getElem?_set]
  split
  ·subst_vars
   split
   ·exact h.2.symm
   ·rename_i hlt; exact absurd h.ltk hlt
  ·rfl
 rw [this]
theorem FHas.upd (hne : opl ≠ om) (h : FHas T opl om tk Y s) : FHas T opl om tk (foS opl om tk Y s2) s2 := by
 refine ⟨?_, ?_⟩
 ·intro q hq
  rw [ycI]
  exact ycA (by rw [Zy]; simp [hne]) (fun q hq => h.lt (by rw [← Zy (tk := tk) (s := s2)]; exact List.mem_map.2 ⟨q, hq, rfl⟩)) q hq
 ·rw [yfd h.2, List.getElem?_set_self h.ltk]
theorem FHas.app (h : FHas T opl om tk Y s) (B : List AObj) : FHas T opl om tk ⟨Y.gl, Y.objs ++ B, Y.toks⟩ s := ⟨h.1.app B _, h.2⟩
theorem yhg (hne : opl ≠ om) {n : Nat} (h : Y.toks[tk]? = some ⟨n, T, 1⟩) : foS opl om tk (foS opl om tk Y s) s2 = foS opl om tk Y s2 := by
 have hl := (List.getElem?_eq_some_iff.1 h).1
 have h2 : (foS opl om tk Y s).toks[tk]? = some ⟨s.1.length, T, 1⟩ := by rw [yfd h, List.getElem?_set_self hl]
 rw [ycl h2, ycl h]
 simp only
 rw [ycl h]
 rw [yaD (by rw [Zy]; simp [hne]) (by rw [Zy, Zy]; exact fun _ h => h), List.set_set]
theorem FHas.cut (h : FHas T opl om tk Y s) (B : List AObj) {no nt : Nat} (hno : no = Y.objs.length) (hnt : nt = Y.toks.length) : (foS opl om tk ⟨Y.gl, Y.objs ++ B, Y.toks⟩ s2).cut no nt = foS opl om tk Y s2 := by
 subst hno; subst hnt
 have hk : (⟨Y.gl, Y.objs ++ B, Y.toks⟩ : Store).toks[tk]? = some ⟨s.1.length, T, 1⟩ := h.2
 rw [ycl hk, ycl h.2]
 have hlt : ∀ q, q ∈ foU opl om tk s2 → q.1 < Y.objs.length := fun q hq => h.lt (by rw [← Zy (tk := tk) (s := s2)]; exact List.mem_map.2 ⟨q, hq, rfl⟩)
 rw [ycY hlt]
 unfold Store.cut
 simp only
 rw [List.take_left' (zn _ _), List.take_of_length_le (by simp)]
theorem yec (H : FnH x ox opl oar om ov vf) (h : HasU Y (foX x ox opl oar om ov vf)) : HasU (foS opl om tk Y s) (foX x ox opl oar om ov vf) := fun q hq => by
 rw [ZW (H.hX q hq)]; exact h q hq
/-- A round's end: the record is as it was. -/
theorem yp8 {r : Nat} {a b : AObj} (h : r ∉ [opl, om]) (ha : Y.objs[r]? = some a) : { foS opl om tk { Y with objs := Y.objs.set r b } s with objs := ((foS opl om tk { Y with objs := Y.objs.set r b } s).objs).set r a } = foS opl om tk Y s := by
 have h1 := yiS (X := Y) (V := foU opl om tk s) (b := b) h ha
 have h2 := congrArg Store.objs h1
 simp only at h2
 have h3 : (foS opl om tk { Y with objs := Y.objs.set r b } s).toks = (foS opl om tk Y s).toks := rfl
 show (⟨(foS opl om tk { Y with objs := Y.objs.set r b } s).gl, ((foS opl om tk { Y with objs := Y.objs.set r b } s).objs).set r a, (foS opl om tk { Y with objs := Y.objs.set r b } s).toks⟩ : Store) = ⟨(foS opl om tk Y s).gl, (foS opl om tk Y s).objs, (foS opl om tk Y s).toks⟩
 rw [h3, zh, zh, ycI, ycI, h2]
theorem FHas.set (h : FHas T opl om tk Y s) {i : Nat} {ob : AObj} (hi : i ∉ [opl, om]) : FHas T opl om tk { Y with objs := Y.objs.set i ob } s := ⟨ycM h.1 hi, h.2⟩
/-- What lies behind is let go. -/
theorem yrh {P : Program} {f : FuncId} {args : List AV} {r0 : AV} (hh : FHas T opl om tk Y s) (hrn : WVt Y.objs.length Y.toks.length 0 r0 r0)
  (h : ACalls P f args Y fun r σ' => r = r0 ∧ σ'.cut Y.objs.length Y.toks.length = foS opl om tk Y s2) : ACalls P f args Y fun r σ' => r = r0 ∧ σ' = foS opl om tk Y s2 := by
 refine h.less fun r σ' ⟨h1, h2⟩ => ⟨_, _, r0, by subst h1; exact hrn, Nat.le_refl _, Nat.le_refl _, fun ob hob => ?_, rfl, h2⟩
 have : σ'.objs.take Y.objs.length = (foS opl om tk Y s2).objs := congrArg Store.objs h2
 rw [this, ycI] at hob
 rcases ZN hob with h | ⟨q, hq, rfl⟩
 ·exact .inl h
 ·refine .inr ?_
  have h3 := hh.ltk
  simp only [foU, List.mem_cons, List.not_mem_nil, or_false] at hq
  rcases hq with rfl | rfl
  ·simp [AObj.clo, AV.clos, AV.clo, h3]
  ·rfl
end
section
variable {x : ByteArray} {d : D} {p : List Int} {sc : List (ByteArray × ByteArray)} {s : FSt}
def fndD (x : ByteArray) (d : D) (p : List Int) (inn : List (ByteArray × ByteArray)) (k : Nat) (s : FSt) : FSt := fkd fndN (fndV x) d p inn k s
def fndS (x : ByteArray) (d : D) (p : List Int) (sc : List (ByteArray × ByteArray)) (k : Nat) (s : FSt) : FSt := fks fndN (fndV x) d p sc k s
theorem yiJ (h : yb d = 2) : fnd x d p sc s = if (decide (d.text = x) && !(YF sc x).isSome) = true then (s.1 ++ [p], (sc.map (·.2)).foldl addS s.2) else s := ykF _ _ h
theorem yio (h : yb d = 5 ∨ yb d = 9) : fnd x d p sc s = fnd x (d2 d.kids) (p ++ [2]) (yB sc (ownS d) (kyS p (ownS d) 0)) s := ypv _ _ h
theorem ykx (h : yb d = 6) : fnd x d p sc s = fnd x (d.kids.getD 3 dnone) (p ++ [3]) (yB sc (ownS d) (kyS p (ownS d) 0)) (fnd x (d2 d.kids) (p ++ [2]) sc s) := ymn _ _ h
theorem ykj (h : yb d = 7) : fnd x d p sc s = fnd x (d2 d.kids) (p ++ [2]) (yB sc (ownS d) (kyS p (ownS d) 0)) (fndD x d p (yB sc (ownS d) (kyS p (ownS d) 0)) (d1 d.kids).kids.length s) := yl8 _ _ h
theorem yhn {inn : List (ByteArray × ByteArray)} {k : Nat} {y : D} (h : (d1 d.kids).kids[k]? = some y) : fndD x d p inn (k + 1) s = fnd x (d2 y.kids) (p ++ [1, (k : Int), 2]) (yB inn (parS y) (kyS p (parS y) (yW (d1 d.kids).kids k))) (fndD x d p inn k s) := yfi _ _ h
theorem ydm {k : Nat} {q : Sub × D} (h : (subs d)[k]? = some q) : fndS x d p sc (k + 1) s = fnd x q.2 (p ++ q.1.p) sc (fndS x d p sc k s) := yff _ _ h
theorem yfk (h : yb d ≠ 2 ∧ yb d ≠ 5 ∧ yb d ≠ 9 ∧ yb d ≠ 6 ∧ yb d ≠ 7) : fndS x d p sc (subs d).length s = fnd x d p sc s := ykt _ _ h
theorem yqo {inn : List (ByteArray × ByteArray)} {j k : Nat} (h1 : j ≤ k) (h2 : k ≤ (d1 d.kids).kids.length) : (fndD x d p inn j s).1.length ≤ (fndD x d p inn k s).1.length := yoy x d p inn s h1 h2
theorem yp6 {j k : Nat} (h1 : j ≤ k) (h2 : k ≤ (subs d).length) : (fndS x d p sc j s).1.length ≤ (fndS x d p sc k s).1.length := yo8 x d p sc s h1 h2
theorem yqZ {T : TypeId} {opl om tk : Nat} {Y : Store} {n : Nat} (hne : opl ≠ om) (h : Y.toks[tk]? = some ⟨n, T, 1⟩) (ho : opl < Y.objs.length) (l : List (List Int)) (R : List ByteArray) (hm : Y.objs[om]? = some (.map (tK R) (tV R))) :
  (⟨Y.gl, Y.objs.set opl (.box [.acc (l.map wPV) tk]), Y.toks.modify tk fun t => { t with n := l.length }⟩ : Store) = foS opl om tk Y (l, R) := by
 unfold foS foU
 simp only [yM]
 have : (Y.objs.set opl (.box [.acc (l.map wPV) tk])).set om (.map (tK R) (tV R)) = Y.objs.set opl (.box [.acc (l.map wPV) tk]) := by
  apply List.ext_getElem?
  intro i
  rw [List.getElem?_set]
  split
  ·subst_vars
   have := (List.getElem?_eq_some_iff.1 hm).1
   simp only [List.length_set, this, if_true]
   rw [List.getElem?_set_ne hne, hm]
  ·rfl
 rw [this]
theorem yn6 {opl om tk : Nat} {Y : Store} {l : List (List Int)} {R R2 : List ByteArray} : setS (foS opl om tk Y (l, R)) om R2 = foS opl om tk Y (l, R2) := by
 unfold foS foU setS
 simp only [yM, List.set_set]
end
theorem yab {p q : List Int} (h1 : ∀ j, j ∈ p → 0 ≤ j ∧ j ≤ 1000000000) (h2 : ∀ j, j ∈ q → 0 ≤ j ∧ j ≤ 1000000000) : ∀ j, j ∈ p ++ q → 0 ≤ j ∧ j ≤ 1000000000 := fun j hj => (List.mem_append.1 hj).elim (h1 j) (h2 j)
theorem yoa {opl om tk : Nat} {A : List AObj} {g : List (Nat × PV)} {tks : List Tok} {a b c : AObj} {s : FSt} (h : A.length + 1 ∉ [opl, om]) :
  (⟨g, (foS opl om tk ⟨g, A ++ [a, b], tks⟩ s).objs.set (A.length + 1) c, (foS opl om tk ⟨g, A ++ [a, b], tks⟩ s).toks⟩ : Store) = foS opl om tk ⟨g, A ++ [a, c], tks⟩ s := by
 have key : (yM (A ++ [a, b]) (foU opl om tk s)).set (A.length + 1) c = yM (A ++ [a, c]) (foU opl om tk s) := by
  simp only [List.mem_cons, List.not_mem_nil, or_false, not_or] at h
  unfold foU
  simp only [yM]
  have h1 : opl ≠ A.length + 1 := fun e => h.1 e.symm
  have h2 : om ≠ A.length + 1 := fun e => h.2 e.symm
  rw [List.set_comm _ c h2, List.set_comm _ c h1]
  have e : (A ++ [a, b]).set (A.length + 1) c = A ++ [a, c] := by rw [List.set_append_right _ _ (by omega)]; simp
  rw [e]
 show (⟨g, (yM (A ++ [a, b]) (foU opl om tk s)).set (A.length + 1) c, tks.modify tk fun t => { t with n := s.1.length }⟩ : Store) = _
 rw [key]; rfl
end Go.Aw

namespace Go.Aw
open Go
section
variable {ρ : Option Nat} {P : Program} {σ0 : Store} {N : Nat} {s : St}
theorem yk6 {c : Code} {Q : Exit → St → Prop} (i : Nat) (e : TypeId) (sz : Nat) (hi : s.σ.objs[i]? = some (.box [.pv .nils]))
  (k : AWpR ρ P σ0 N c Q { s with σ := ⟨s.σ.gl, s.σ.objs.set i (.box [.acc [] s.σ.toks.length]), s.σ.toks ++ [⟨0, e, sz⟩]⟩ }) : AWpR ρ P σ0 N c Q s := by
 rintro g0 w0 a w ⟨g, r⟩
 obtain ⟨i1, le1⟩ := r.2.1.adopt ⟨0, e, sz⟩
 have r' := r.later (σ' := { s.σ with toks := s.σ.toks ++ [⟨0, e, sz⟩] }) (L' := s.L) le1 (fun _ _ h => h) i1 rfl rfl (fun _ _ => rfl) (Nat.le_refl _) rfl rfl rfl
 refine k g0 w0 a w ⟨_, r'.setTell (i := i) (ob := .box [.pv .nils]) (ob' := .box [.acc [] s.σ.toks.length]) hi fun b hb => ?_⟩
 obtain ⟨h1, vs, el, h2, h3, h4, h5⟩ := hb
 refine ⟨fun x hx => ?_, vs, el, h2, h3, h4, fun j x v hx hv => ?_⟩
 ·rw [List.mem_singleton] at hx; subst hx; rfl
 ·cases j with
  | succ j => simp at hx
  | zero =>
   simp at hx; subst hx
   have h6 := h5 0 (.pv .nils) v rfl hv
   cases h6 with
   | pv h6 =>
    have h7 := h6.nils_inv
    subst h7
    exact .acc .empty (t := ⟨0, e, sz⟩) (by simp) (Nat.zero_le _) (by simp) (fun _ => .inr ⟨none, rfl⟩)
end
/-- Objects and tokens up to a number are kept. -/
theorem ACalls.keepTo2 {P : Program} {f : FuncId} {args : List AV} {σ : Store} {r0 : AV} {Y : Store} (no nt : Nat) (h0 : σ.objs.length ≤ no) (h1 : σ.toks.length ≤ nt) (hc : ∀ ob, ob ∈ Y.objs → ob ∈ σ.objs ∨ ob.clo no nt 0 = true)
  (h : ACalls P f args σ fun r σ' => WVt no nt 0 r r0 ∧ σ'.cut no nt = Y) : ACalls P f args σ fun r σ' => r = r0 ∧ σ' = Y := by
 refine h.less fun r σ' ⟨h2, h3⟩ => ⟨_, _, r0, h2, h0, h1, fun ob hob => ?_, rfl, h3⟩
 have : σ'.objs.take no = Y.objs := congrArg Store.objs h3
 rw [this] at hob
 exact hc ob hob
theorem ynR {α : Type} {l : List α} {a b c y : α} : (l ++ [a, b, c]).set (l.length + 1) y = l ++ [a, y, c] := by
 rw [List.set_append_right _ _ (by omega)]; simp
theorem ypU {T : TypeId} {A : List AObj} {g : List (Nat × PV)} {tks : List Tok} {a b c e : AObj} {s : FSt} :
  foS (A.length + 1) (A.length + 3) tks.length ⟨g, A ++ [a, b, c, .map [] [], e], tks ++ [⟨0, T, 1⟩]⟩ s = ⟨g, A ++ [a, .box [.acc (s.1.map wPV) tks.length], c, .map (tK s.2) (tV s.2), e], tks ++ [⟨s.1.length, T, 1⟩]⟩ := by
 unfold foS foU
 have e1 : ∀ x y : AObj, ((A ++ [a, b, c, .map [] [], e]).set (A.length + 1) x).set (A.length + 3) y = A ++ [a, x, c, y, e] := by
  intro x y
  rw [List.set_append_right _ _ (by omega), List.set_append_right _ _ (by omega)]; simp
 have e2 : ∀ f : Tok → Tok, (tks ++ [(⟨0, T, 1⟩ : Tok)]).modify tks.length f = tks ++ [f ⟨0, T, 1⟩] := by
  intro f
  rw [yg2 f (x := (⟨0, T, 1⟩ : Tok)) (by simp)]; simp
 simp only [yM, e1, e2]
end Go.Aw

namespace Go.Aw
open Go
def AD.graft : AD → List Int → AD → AD
 | _, [], u => u
 | .mk k n t o l, i :: p, u => match l[i.toNat]? with
  | some c => .mk k n t o (l.set i.toNat (AD.graft c p u))
  | none => .mk k n t o l
def D.graft : D → List Int → D → D
 | _, [], u => u
 | .mk k n t l, i :: p, u => match l[i.toNat]? with
  | some c => .mk k n t (l.set i.toNat (D.graft c p u))
  | none => .mk k n t l
theorem AD.graft_dat : ∀ (p : List Int) (t u : AD), (t.graft p u).dat = t.dat.graft p u.dat
 | [], t, u => by cases t; rfl
 | i :: p, .mk k n tx o l, u => by
  simp only [AD.graft, AD.dat, D.graft, AD.dats_map, List.getElem?_map]
  cases h : l[i.toNat]? with
  | none => simp [AD.dat, AD.dats_map]
  | some c => simp [AD.dat, AD.dats_map, List.map_set, AD.graft_dat p c u]
/-- A place that is not below another one is still there. -/
theorem D.graft_sub (u : D) : ∀ (q p : List Int) (d x : D), (∀ j, j ∈ q → 0 ≤ j) → d.sub p = some x → (∀ i r, p ≠ q ++ i :: r) → ∃ y, (d.graft q u).sub p = some y
 | [], p, d, x, h0, h, hq => by
  cases p with
  | nil => exact ⟨_, rfl⟩
  | cons i r => exact (hq i r rfl).elim
 | j :: q, p, .mk k n t l, x, h0, h, hq => by
  cases p with
  | nil => exact ⟨_, rfl⟩
  | cons i r =>
   simp only [D.sub, D.kids] at h
   split at h
   ·rename_i hi
    obtain ⟨c, hc, hcx⟩ := Option.bind_eq_some_iff.1 h
    simp only [D.graft]
    cases hj : l[j.toNat]? with
    | none =>
     refine ⟨x, ?_⟩
     simp only [D.sub, D.kids]
     rw [if_pos hi, hc]; exact hcx
    | some e =>
     simp only [D.sub, D.kids]
     rw [if_pos hi, List.getElem?_set]
     by_cases hij : j.toNat = i.toNat
     ·have hj0 := h0 j (by simp)
      have hji : j = i := by omega
      subst hji
      rw [if_pos rfl, if_pos (List.getElem?_eq_some_iff.1 hc).1]
      rw [hc] at hj
      cases hj
      simp only [Option.bind_some]
      exact D.graft_sub u q r c x (fun a ha => h0 a (by simp [ha])) hcx fun i' r' e => hq i' r' (by rw [e]; rfl)
     ·rw [if_neg hij, hc]
      exact ⟨x, hcx⟩
   ·cases h
theorem AD.graft_sub (u : AD) {q p : List Int} {t x : AD} (h0 : ∀ j, j ∈ q → 0 ≤ j) (h : t.sub p = some x) (hq : ∀ i r, p ≠ q ++ i :: r) : ∃ y, (t.graft q u).sub p = some y := by
 obtain ⟨y, hy⟩ := D.graft_sub u.dat q p t.dat x.dat h0 (by rw [AD.sub_dat, h]; rfl) hq
 rw [← AD.graft_dat, AD.sub_dat] at hy
 obtain ⟨z, hz, _⟩ := Option.map_eq_some_iff.1 hy
 exact ⟨z, hz⟩
theorem yjy {pre c post u : List AV} (h : u.length = c.length) : overlay (pre ++ c ++ post) pre.length u = pre ++ u ++ post := by
 unfold overlay
 rw [show pre ++ c ++ post = pre ++ (c ++ post) from List.append_assoc _ _ _, List.take_left' rfl, h, ← List.append_assoc pre c post, List.drop_left' (by simp), List.append_assoc]
/-- Another tree is written at a place. -/
theorem AD.graftW {σ : Store} (u : AD) (hun : (u.arrs.map (·.1)).Nodup) (huH : HasU σ u.arrs) : ∀ (p : List Int) (t x : AD) (o : Nat) (pre post : List AV), HasU σ (zb o pre post t) → ((zb o pre post t).map (·.1)).Nodup → (∀ k, k ∈ (zb o pre post t).map (·.1) → k ∉ u.arrs.map (·.1)) → t.sub p = some x →
  ∃ cells, σ.objs[(AD.loc (o, pre.length) t p).1]? = some (.arr cells) ∧ (AD.loc (o, pre.length) t p).2 + 4 ≤ cells.length ∧
   HasU ({ σ with objs := σ.objs.set (AD.loc (o, pre.length) t p).1 (.arr (overlay cells (AD.loc (o, pre.length) t p).2 u.cells)) } : Store) (zb o pre post (t.graft p u)) ∧
   ((zb o pre post (t.graft p u)).map (·.1)).Nodup ∧ (∀ k, k ∈ (t.graft p u).arrs.map (·.1) → k ∈ t.arrs.map (·.1) ∨ k ∈ u.arrs.map (·.1)) ∧ (AD.loc (o, pre.length) t p).1 ∈ (zb o pre post t).map (·.1)
 | [], t, x, o, pre, post, h, hn, hd, hx => by
  have ho := h _ (List.mem_cons_self)
  have hou : o ∉ u.arrs.map (·.1) := hd o (by simp [zb])
  refine ⟨_, ho, by simp [AD.loc, AD.cells_len], ?_, ?_, fun k hk => .inr hk, by simp [AD.loc, zb]⟩
  ·intro q hq
   simp only [AD.loc, AD.graft] at hq ⊢
   rw [yjy (by rw [AD.cells_len, AD.cells_len])]
   rcases List.mem_cons.1 hq with e | hq2
   ·subst e; exact List.getElem?_set_self (List.getElem?_eq_some_iff.1 ho).1
   ·rw [List.getElem?_set_ne (by intro e; exact hou (by rw [e]; exact List.mem_map.2 ⟨q, hq2, rfl⟩))]
    exact huH q hq2
  ·exact List.nodup_cons.2 ⟨hou, hun⟩
 | i :: p, .mk k n tx o' l, x, o, pre, post, h, hn, hd, hx => by
  simp only [AD.sub] at hx
  split at hx
  ·obtain ⟨c, hc, hx⟩ := Option.bind_eq_some_iff.1 hx
   simp only [AD.kids] at hc
   obtain ⟨h1, h2⟩ := ybB (c' := c.graft p u) hc
   have hne : l ≠ [] := by intro e; rw [e] at hc; simp at hc
   have hl : ((l.take i.toNat).flatMap AD.cells).length = i.toNat * 4 := by
    rw [zA, List.length_take, Nat.min_eq_left (Nat.le_of_lt (List.getElem?_eq_some_iff.1 hc).1)]; omega
   generalize hA : l.take i.toNat = A at *
   generalize hB : l.drop (i.toNat + 1) = B at *
   have hrow : (AD.mk k n tx o' l).arrs = (o', .arr (A.flatMap AD.cells ++ c.cells ++ B.flatMap AD.cells)) :: (A.flatMap AD.arrs ++ c.arrs ++ B.flatMap AD.arrs) := by
    rw [AD.arrs, Zz hne, AD.arrss_flat, h1]; simp
   have hset : (AD.mk k n tx o' l).graft (i :: p) u = .mk k n tx o' (A ++ c.graft p u :: B) := by
    simp only [AD.graft, hc, h2]
   have hrow' : ((AD.mk k n tx o' l).graft (i :: p) u).arrs = (o', .arr (A.flatMap AD.cells ++ (c.graft p u).cells ++ B.flatMap AD.cells)) :: (A.flatMap AD.arrs ++ (c.graft p u).arrs ++ B.flatMap AD.arrs) := by
    rw [hset, AD.arrs, Zz (by simp), AD.arrss_flat]; simp
   have hcells : ((AD.mk k n tx o' l).graft (i :: p) u).cells = (AD.mk k n tx o' l).cells := by
    rw [hset, AD.cells, AD.cells, yic (l := A ++ c.graft p u :: B) (r := l)]
    rw [h1]; simp
   have hsub : ∀ q, q ∈ zb o' (A.flatMap AD.cells) (B.flatMap AD.cells) c → q ∈ zb o pre post (AD.mk k n tx o' l) := by
    intro q hq
    refine List.mem_cons_of_mem _ ?_
    rw [hrow]
    rcases List.mem_cons.1 hq with rfl | hq
    ·exact List.mem_cons_self
    ·exact List.mem_cons_of_mem _ (List.mem_append_left _ (List.mem_append_right _ hq))
   have hkeys : (zb o pre post (AD.mk k n tx o' l)).map (·.1) = o :: o' :: ((A.flatMap AD.arrs).map (·.1) ++ c.arrs.map (·.1) ++ (B.flatMap AD.arrs).map (·.1)) := by
    rw [zP, hrow]; simp
   rw [hkeys] at hn hd
   have hn1 := List.nodup_cons.1 hn
   have hn2 := List.nodup_cons.1 hn1.2
   have hn3 := List.nodup_append.1 hn2.2
   have hn4 := List.nodup_append.1 hn3.1
   have hnc : ((zb o' (A.flatMap AD.cells) (B.flatMap AD.cells) c).map (·.1)).Nodup := by
    rw [zP]
    exact List.nodup_cons.2 ⟨fun hm => hn2.1 (List.mem_append_left _ (List.mem_append_right _ hm)), hn4.2.1⟩
   have hcin : ∀ a, a ∈ (zb o' (A.flatMap AD.cells) (B.flatMap AD.cells) c).map (·.1) → a = o' ∨ a ∈ c.arrs.map (·.1) := fun a ha => by rw [zP] at ha; exact List.mem_cons.1 ha
   obtain ⟨cells, k1, k2, k3, k4, k5, k6⟩ := AD.graftW u hun huH p c x o' (A.flatMap AD.cells) (B.flatMap AD.cells) (fun q hq => h q (hsub q hq)) hnc (fun a ha => hd a (by
    rcases hcin a ha with e | e
    ·rw [e]; simp
    ·exact List.mem_cons_of_mem _ (List.mem_cons_of_mem _ (List.mem_append_left _ (List.mem_append_right _ e))))) hx
   rw [hl] at k1 k2 k3 k6
   have hrin := hcin _ k6
   simp only [AD.loc, AD.kids, hc, AD.o]
   generalize AD.loc (o', i.toNat * 4) c p = lc at k1 k2 k3 k6 hrin ⊢
   have hc'n : ∀ a, a ∈ (c.graft p u).arrs.map (·.1) → a ∈ c.arrs.map (·.1) ∨ a ∈ u.arrs.map (·.1) := k5
   have hout : ∀ q, q ∈ zb o pre post (AD.mk k n tx o' l) → q.1 ≠ lc.1 → (σ.objs.set lc.1 (.arr (overlay cells lc.2 u.cells)))[q.1]? = some q.2 := fun q hq hne2 => by
    rw [List.getElem?_set_ne (fun e => hne2 e.symm)]; exact h q hq
   have hlo : o ≠ lc.1 := by
    intro e
    rcases hrin with e2 | e2
    ·exact hn1.1 (by rw [e, e2]; simp)
    ·exact hn1.1 (by rw [e]; exact List.mem_cons_of_mem _ (List.mem_append_left _ (List.mem_append_right _ e2)))
   refine ⟨cells, k1, k2, fun q hq => ?_, ?_, fun a ha => ?_, ?_⟩
   ·unfold zb at hq
    rw [hrow', hcells] at hq
    rcases List.mem_cons.1 hq with rfl | hq
    ·exact hout _ (List.mem_cons_self) hlo
    ·rcases List.mem_cons.1 hq with rfl | hq
     ·exact k3 _ (List.mem_cons_self)
     ·rcases List.mem_append.1 hq with hq | hq
      ·rcases List.mem_append.1 hq with hq | hq
       ·have hm1 : q.1 ∈ (A.flatMap AD.arrs).map (·.1) := List.mem_map.2 ⟨q, hq, rfl⟩
        refine hout q (List.mem_cons_of_mem _ (by rw [hrow]; exact List.mem_cons_of_mem _ (List.mem_append_left _ (List.mem_append_left _ hq)))) fun e => ?_
        rcases hrin with e2 | e2
        ·exact hn2.1 (by rw [← e2, ← e]; exact List.mem_append_left _ (List.mem_append_left _ hm1))
        ·exact hn4.2.2 _ hm1 _ e2 e
       ·exact k3 _ (List.mem_cons_of_mem _ hq)
      ·have hm1 : q.1 ∈ (B.flatMap AD.arrs).map (·.1) := List.mem_map.2 ⟨q, hq, rfl⟩
       refine hout q (List.mem_cons_of_mem _ (by rw [hrow]; exact List.mem_cons_of_mem _ (List.mem_append_right _ hq))) fun e => ?_
       rcases hrin with e2 | e2
       ·exact hn2.1 (by rw [← e2, ← e]; exact List.mem_append_right _ hm1)
       ·exact hn3.2.2 _ (List.mem_append_right _ e2) _ hm1 e.symm
   ·have e1 : (zb o pre post ((AD.mk k n tx o' l).graft (i :: p) u)).map (·.1) = o :: o' :: ((A.flatMap AD.arrs).map (·.1) ++ (c.graft p u).arrs.map (·.1) ++ (B.flatMap AD.arrs).map (·.1)) := by
     rw [zP, hrow']; simp
    rw [e1]
    have k4' := List.nodup_cons.1 (by rw [zP] at k4; exact k4)
    have du : ∀ a, a ∈ o :: o' :: ((A.flatMap AD.arrs).map (·.1) ++ c.arrs.map (·.1) ++ (B.flatMap AD.arrs).map (·.1)) → a ∉ u.arrs.map (·.1) := hd
    refine List.nodup_cons.2 ⟨fun hm => ?_, List.nodup_cons.2 ⟨fun hm => ?_, List.nodup_append.2 ⟨List.nodup_append.2 ⟨hn4.1, k4'.2, fun a ha b hb e => ?_⟩, hn3.2.1, fun a ha b hb e => ?_⟩⟩⟩
    ·rcases List.mem_cons.1 hm with e | hm
     ·exact hn1.1 (by rw [e]; exact List.mem_cons_self)
     ·rcases List.mem_append.1 hm with hm | hm
      ·rcases List.mem_append.1 hm with hm | hm
       ·exact hn1.1 (List.mem_cons_of_mem _ (List.mem_append_left _ (List.mem_append_left _ hm)))
       ·rcases hc'n _ hm with hm | hm
        ·exact hn1.1 (List.mem_cons_of_mem _ (List.mem_append_left _ (List.mem_append_right _ hm)))
        ·exact du o (by simp) hm
      ·exact hn1.1 (List.mem_cons_of_mem _ (List.mem_append_right _ hm))
    ·rcases List.mem_append.1 hm with hm | hm
     ·rcases List.mem_append.1 hm with hm | hm
      ·exact hn2.1 (List.mem_append_left _ (List.mem_append_left _ hm))
      ·exact k4'.1 hm
     ·exact hn2.1 (List.mem_append_right _ hm)
    ·subst e
     rcases hc'n _ hb with hb | hb
     ·exact hn4.2.2 _ ha _ hb rfl
     ·exact du a (List.mem_cons_of_mem _ (List.mem_cons_of_mem _ (List.mem_append_left _ (List.mem_append_left _ ha)))) hb
    ·subst e
     rcases List.mem_append.1 ha with ha | ha
     ·exact hn3.2.2 _ (List.mem_append_left _ ha) _ hb rfl
     ·rcases hc'n _ ha with ha | ha
      ·exact hn3.2.2 _ (List.mem_append_right _ ha) _ hb rfl
      ·exact du a (List.mem_cons_of_mem _ (List.mem_cons_of_mem _ (List.mem_append_right _ hb))) ha
   ·rw [hrow'] at ha
    rw [hrow]
    simp only [List.map_cons, List.map_append, List.mem_cons, List.mem_append] at ha ⊢
    rcases ha with e | (ha | ha) | ha
    ·exact .inl (.inl e)
    ·exact .inl (.inr (.inl (.inl ha)))
    ·rcases hc'n a ha with h3 | h3
     ·exact .inl (.inr (.inl (.inr h3)))
     ·exact .inr h3
    ·exact .inl (.inr (.inr ha))
   ·rw [hkeys]
    rcases hrin with e | e
    ·rw [e]; simp
    ·exact List.mem_cons_of_mem _ (List.mem_cons_of_mem _ (List.mem_append_left _ (List.mem_append_right _ e)))
  ·cases hx
end Go.Aw

namespace Go.Aw
open Go
section
variable {ρ : Option Nat} {P : Program} {σ0 : Store} {N : Nat} {s : St} {Q : Exit → St → Prop}
/-- The cells of a datum. -/
def ybV (d : D) : List AV := [.pv (.int .i64 d.kind), .pv (.int .i64 d.num), .pv (.str d.text), .pv (.slice (d.kids.map enc))]
theorem ygr {c : Code} (d : Nat) {s2 : St} {M ob : Nat} {t : AD} (hx : get s.T d = .ptr ob 0) (hob : s.σ.objs[ob]? = some (.arr t.cells)) (hU : HasU s.σ t.arrs) (hM : M ≤ ob) (hge : ∀ q, q ∈ t.arrs → M ≤ q.1 ∧ q.1 ≠ ob) (hw : Weak σ0 M s.σ.toks.length s.L.length s s2)
  (k : AWpR ρ P σ0 N c Q ⟨(d, .ptr s2.σ.objs.length 0) :: s2.T, s2.L, { s2.σ with objs := s2.σ.objs ++ [.arr (ybV t.dat)] }⟩) : AWpR ρ P σ0 N c Q s := by
 rintro g0 w0 a w ⟨g, r⟩
 have r2 := hw.rel r
 have hpr := r.2.2.2.2 d
 rw [hx] at hpr
 generalize hpv : a.tmps.getD d undef = pv at hpr
 cases hpr with
 | ptr hio =>
  rename_i b
  obtain ⟨hnl, vs, rest, e, h6, h7, h8, h9⟩ := r.2.1.objs ob _ b hob hio
  have hA := r2.2.1.addSs (fun b => ∃ q, q ∈ t.arrs ∧ g.io[q.1]? = some b) (by
   rintro b ⟨q, hq, hb⟩
   exact r.2.1.freshOld hb (hge q hq).1)
  have r3 := r2.later (σ' := s2.σ) (L' := s2.L) hA.2 (fun _ _ h => h) hA.1 rfl rfl (fun _ _ => rfl) (Nat.le_refl _) rfl rfl rfl
  have hf0 := r.2.1.freshOld (no := M) (nt := s.σ.toks.length) (nl := s.L.length) hio hM
  have ap := r.2.1.apart
  have hf : Fresh { g.cut M s.σ.toks.length s.L.length with S := fun c o => (g.cut M s.σ.toks.length s.L.length).S c o ∨ ∃ q, q ∈ t.arrs ∧ g.io[q.1]? = some c } w b := by
   refine ⟨hf0.low, hf0.lt, hf0.K, fun o hS => ?_, hf0.own⟩
   rcases hS with hS | ⟨q, hq, hb⟩
   ·exact hf0.S o hS
   ·exact (hge q hq).2 (zY ap.1.1 hb hio)
  have hks : Keeps g.B g.S (fun c o => g.S c o ∨ ∃ q, q ∈ t.arrs ∧ g.io[q.1]? = some c) w w := ⟨fun _ _ h => .inl h, fun _ _ _ => rfl, fun _ _ => rfl⟩
  have hro : RObj { g.cut M s.σ.toks.length s.L.length with S := fun c o => (g.cut M s.σ.toks.length s.L.length).S c o ∨ ∃ q, q ∈ t.arrs ∧ g.io[q.1]? = some c } s2.σ.toks w b (.arr (ybV t.dat)) := by
   refine ⟨fun x hx => ?_, vs, rest, e, h6, by rw [h7, AD.cells_len]; rfl, h8, fun i x v hx hv => ?_⟩
   ·simp only [ybV, List.mem_cons, List.not_mem_nil, or_false] at hx
    rcases hx with rfl | rfl | rfl | rfl <;> rfl
   ·rw [AD.cells_eq] at h9
    simp only [ybV] at hx
    match i, hx with
    | 0, hx => simp only [List.getElem?_cons_zero, Option.some.injEq] at hx; subst hx; have := (h9 0 _ v rfl hv).pv_inv.mono hks; rw [AD.dat_kind]; exact .pv this
    | 1, hx => simp only [List.getElem?_cons_succ, List.getElem?_cons_zero, Option.some.injEq] at hx; subst hx; have := (h9 1 _ v rfl hv).pv_inv.mono hks; rw [AD.dat_num]; exact .pv this
    | 2, hx => simp only [List.getElem?_cons_succ, List.getElem?_cons_zero, Option.some.injEq] at hx; subst hx; have := (h9 2 _ v rfl hv).pv_inv.mono hks; rw [AD.dat_text]; exact .pv this
    | 3, hx =>
     simp only [List.getElem?_cons_succ, List.getElem?_cons_zero, Option.some.injEq] at hx; subst hx
     refine .pv (AD.reads (g := g) (tk := s.σ.toks) (fun b o h => .inl h) t v (fun q hq => ?_) (h9 3 _ v rfl hv))
     have h4 := hU q hq
     have hlt : q.1 < g.io.length := by rw [r.2.1.lio]; exact (List.getElem?_eq_some_iff.1 h4).1
     exact ⟨g.io[q.1], by simp, r.2.1.objs q.1 q.2 _ h4 (by simp), fun o => .inr ⟨q, hq, by simp⟩⟩
    | n + 4, hx => simp at hx
  have r4 := r3.addObj hf hro
  refine k g0 w0 a w ⟨_, r4.1, r4.2.1, r4.2.2.1, r4.2.2.2.1, fun t' => ?_⟩
  simp only [get]
  split
  ·subst_vars
   rw [hpv]
   refine .ptr ?_
   have hl := r2.2.1.lio
   show ((g.cut M s.σ.toks.length s.L.length).io ++ [b])[s2.σ.objs.length]? = some b
   rw [← hl]; simp
  ·exact r4.2.2.2.2 t'
end
end Go.Aw

namespace Go.Aw
open Go
section
variable {ρ : Option Nat} {P : Program} {σ0 : Store} {N : Nat} {s : St} {Q : Exit → St → Prop}
theorem Inv.freshOldL {g : Ghost} {σ : Store} {L : List (List AV)} {w : World} (h : Inv g σ L w) {i no nt nl b : Nat} (hi : g.lam[i]? = some b) (hno : nl ≤ i) : Fresh (g.cut no nt nl) w b := by
 have hown : b ∈ g.owned := by simp only [Ghost.owned, List.mem_append]; exact .inl (.inr (List.mem_of_getElem? hi))
 have hlow := h.low b hown
 have ap := h.apart
 refine ⟨hlow.1, hlow.2.1, hlow.2.2, fun o hS => (h.cells b o hS).2.2.2 (List.mem_of_getElem? hi), ?_⟩
 have hnd := h.nodup
 intro hm
 simp only [Ghost.owned, Ghost.cut, List.mem_append] at hm
 rcases hm with (hm | hm) | hm
 ·exact ap.2.1 b (List.mem_of_mem_take hm) (List.mem_of_getElem? hi)
 ·obtain ⟨q, hq, hqe⟩ := List.getElem_of_mem hm
  have hq2 : q < nl := by rw [List.length_take] at hq; omega
  have h1 : g.lam[q]? = some b := by
   rw [List.getElem_take] at hqe
   rw [← hqe]; simp
  have := zY ap.1.2 h1 hi
  omega
 ·obtain ⟨tb, htb, hte⟩ := List.mem_filterMap.1 hm
  cases tb with
  | none => cases hte
  | some tb =>
   simp only [Option.map_some, Option.some.injEq] at hte
   obtain ⟨kk, hkk, hke⟩ := List.getElem_of_mem (List.mem_of_mem_take htb)
   have := (ap.2.2 kk tb (by rw [← hke]; simp)).2
   rw [hte] at this
   exact this (List.mem_of_getElem? hi)
theorem Fresh.addIo {g : Ghost} {w : World} {b c : Nat} (h : Fresh g w b) (hne : b ≠ c) : Fresh { g with io := g.io ++ [c] } w b := by
 refine ⟨h.low, h.lt, h.K, h.S, fun hm => h.own ?_⟩
 simp only [Ghost.owned, List.mem_append, List.mem_singleton] at hm ⊢
 rcases hm with ((hm | hm) | hm) | hm
 ·exact .inl (.inl hm)
 ·exact absurd hm hne
 ·exact .inl (.inr hm)
 ·exact .inr hm
theorem ycW {c : Code} (d1 d2 : Nat) {s2 : St} {M nl i j a b : Nat} {ks vs ks' vs' : List PV} (h1 : get s.T d1 = .lptr i 0) (h2 : get s.T d2 = .lptr j 0) (hij : i ≠ j) (hLi : s.L[i]? = some [.map a]) (hLj : s.L[j]? = some [.map b]) (hab : a ≠ b)
  (ha : s.σ.objs[a]? = some (.map ks vs)) (hb : s.σ.objs[b]? = some (.map ks' vs')) (hMa : M ≤ a) (hMb : M ≤ b) (hli : nl ≤ i) (hlj : nl ≤ j) (hd : d1 ≠ d2) (hw : Weak σ0 M s.σ.toks.length nl s s2)
  (k : AWpR ρ P σ0 N c Q ⟨(d1, .ptr (s2.σ.objs.length + 2) 0) :: (d2, .ptr (s2.σ.objs.length + 3) 0) :: s2.T, s2.L, { s2.σ with objs := s2.σ.objs ++ [.map ks vs, .map ks' vs', .box [.map s2.σ.objs.length], .box [.map (s2.σ.objs.length + 1)]] }⟩) : AWpR ρ P σ0 N c Q s := by
 rintro g0 w0 ac w ⟨g, r⟩
 have r2 := hw.rel r
 have hl2 := r2.2.1.lio
 have ap := r.2.1.apart
 have hp1 := r.2.2.2.2 d1
 rw [h1] at hp1
 generalize hv1 : ac.tmps.getD d1 undef = v1 at hp1
 have hp2 := r.2.2.2.2 d2
 rw [h2] at hp2
 generalize hv2 : ac.tmps.getD d2 undef = v2 at hp2
 cases hp1 with
 | lptr hi =>
  rename_i bi
  cases hp2 with
  | lptr hj =>
   rename_i bj
   obtain ⟨ui, ei, hi1, hi2, hi3, hi4⟩ := r.2.1.priv i _ bi hLi hi
   obtain ⟨uj, ej, hj1, hj2, hj3, hj4⟩ := r.2.1.priv j _ bj hLj hj
   match ui, hi2 with
   | [xi], hlen1 =>
    match uj, hj2 with
    | [xj], hlen2 =>
     have hxi := hi4 0 (.map a) xi rfl rfl
     have hxj := hj4 0 (.map b) xj rfl rfl
     cases hxi with
     | map hia =>
      rename_i ba
      cases hxj with
      | map hib =>
       rename_i bb
       have hoa := r.2.1.objs a _ ba ha hia
       have hob := r.2.1.objs b _ bb hb hib
       have fa := r.2.1.freshOld (no := M) (nt := s.σ.toks.length) (nl := nl) hia hMa
       have fb := r.2.1.freshOld (no := M) (nt := s.σ.toks.length) (nl := nl) hib hMb
       have fi := r.2.1.freshOldL (no := M) (nt := s.σ.toks.length) (nl := nl) hi hli
       have fj := r.2.1.freshOldL (no := M) (nt := s.σ.toks.length) (nl := nl) hj hlj
       have nab : bb ≠ ba := fun e => hab (zY ap.1.1 hia (e ▸ hib))
       have nia : bi ≠ ba := fun e => ap.2.1 ba (List.mem_of_getElem? hia) (e ▸ List.mem_of_getElem? hi)
       have nib : bi ≠ bb := fun e => ap.2.1 bb (List.mem_of_getElem? hib) (e ▸ List.mem_of_getElem? hi)
       have nja : bj ≠ ba := fun e => ap.2.1 ba (List.mem_of_getElem? hia) (e ▸ List.mem_of_getElem? hj)
       have njb : bj ≠ bb := fun e => ap.2.1 bb (List.mem_of_getElem? hib) (e ▸ List.mem_of_getElem? hj)
       have nji : bj ≠ bi := fun e => hij (zY ap.1.2 hi (e ▸ hj))
       have r3 := r2.addObj fa (ob := .map ks vs) hoa
       have r4 := r3.addObj (fb.addIo nab) (ob := .map ks' vs') hob
       have g4a : (((g.cut M s.σ.toks.length nl).io ++ [ba]) ++ [bb])[s2.σ.objs.length]? = some ba := by rw [← hl2]; simp
       have g4b : (((g.cut M s.σ.toks.length nl).io ++ [ba]) ++ [bb])[s2.σ.objs.length + 1]? = some bb := by rw [← hl2]; simp
       have r5 := r4.addObj ((fi.addIo nia).addIo nib) (ob := .box [.map s2.σ.objs.length]) ⟨fun x hx => by rw [List.mem_singleton] at hx; subst hx; rfl, [.map (some ba)], ei, hi1, rfl, hi3, fun q x v hx hv => by
        cases q with
        | zero => simp at hx hv; subst hx; subst hv; exact .map g4a
        | succ q => simp at hx⟩
       have g5b : ((((g.cut M s.σ.toks.length nl).io ++ [ba]) ++ [bb]) ++ [bi])[s2.σ.objs.length + 1]? = some bb := by rw [List.getElem?_append_left (List.getElem?_eq_some_iff.1 g4b).1]; exact g4b
       have r6 := r5.addObj (((fj.addIo nja).addIo njb).addIo nji) (ob := .box [.map (s2.σ.objs.length + 1)]) ⟨fun x hx => by rw [List.mem_singleton] at hx; subst hx; rfl, [.map (some bb)], ej, hj1, rfl, hj3, fun q x v hx hv => by
        cases q with
        | zero => simp at hx hv; subst hx; subst hv; exact .map g5b
        | succ q => simp at hx⟩
       have e6 : ((((s2.σ.objs ++ [AObj.map ks vs]) ++ [AObj.map ks' vs']) ++ [AObj.box [.map s2.σ.objs.length]]) ++ [AObj.box [.map (s2.σ.objs.length + 1)]]) = s2.σ.objs ++ [.map ks vs, .map ks' vs', .box [.map s2.σ.objs.length], .box [.map (s2.σ.objs.length + 1)]] := by simp
       simp only [e6] at r6
       refine k g0 w0 ac w ⟨_, r6.1, r6.2.1, r6.2.2.1, r6.2.2.2.1, fun t => ?_⟩
       simp only [get]
       split
       ·subst_vars
        rw [hv1]
        refine .ptr ?_
        show (((((g.cut M s.σ.toks.length nl).io ++ [ba]) ++ [bb]) ++ [bi]) ++ [bj])[s2.σ.objs.length + 2]? = some bi
        rw [← hl2]; simp
       ·split
        ·subst_vars
         rw [hv2]
         refine .ptr ?_
         show (((((g.cut M s.σ.toks.length nl).io ++ [ba]) ++ [bb]) ++ [bi]) ++ [bj])[s2.σ.objs.length + 3]? = some bj
         rw [← hl2]; simp
        ·exact r6.2.2.2.2 t
end
end Go.Aw

namespace Go.Aw
open Go
/-- A copy is put at a place: the objects, and the tree. -/
def yak (a : D) (ob : Nat) (st : List AObj × AD) (p : List Int) : List AObj × AD :=
 match (st.1 ++ lobjs st.1.length a)[(AD.loc (ob, 0) st.2 p).1]? with
 | some (.arr cells) => ((st.1 ++ lobjs st.1.length a).set (AD.loc (ob, 0) st.2 p).1 (.arr (overlay cells (AD.loc (ob, 0) st.2 p).2 (lay st.1.length a).cells)), st.2.graft p (lay st.1.length a))
 | _ => (st.1 ++ lobjs st.1.length a, st.2.graft p (lay st.1.length a))
structure GOk (gl : List (Nat × PV)) (tk : List Tok) (M ob : Nat) (st : List AObj × AD) : Prop where
 hU : HasU ⟨gl, st.1, tk⟩ (Ye ob st.2)
 nd : ((Ye ob st.2).map (·.1)).Nodup
 ge : ∀ i, i ∈ (Ye ob st.2).map (·.1) → M ≤ i
theorem GOk.step {gl : List (Nat × PV)} {tk : List Tok} {M ob : Nat} {st : List AObj × AD} (h : GOk gl tk M ob st) (a : D) {p : List Int} {x : AD} (hx : st.2.sub p = some x) :
  GOk gl tk M ob (yak a ob st p) ∧ (yak a ob st p).2 = st.2.graft p (lay st.1.length a) ∧ (yak a ob st p).1.take M = st.1.take M ∧ st.1.length ≤ (yak a ob st p).1.length ∧
   ∃ cells, (st.1 ++ lobjs st.1.length a)[(AD.loc (ob, 0) st.2 p).1]? = some (.arr cells) ∧ (AD.loc (ob, 0) st.2 p).2 + 4 ≤ cells.length ∧ (yak a ob st p).1 = (st.1 ++ lobjs st.1.length a).set (AD.loc (ob, 0) st.2 p).1 (.arr (overlay cells (AD.loc (ob, 0) st.2 p).2 (lay st.1.length a).cells)) := by
 have hua := ybX (σ := ⟨gl, st.1 ++ lobjs st.1.length a, tk⟩) (A := st.1) (C := []) (d := a) (by simp)
 have hr : HasU ⟨gl, st.1 ++ lobjs st.1.length a, tk⟩ (Ye ob st.2) := h.hU.app _ _
 have hlt : ∀ i, i ∈ (Ye ob st.2).map (·.1) → i < st.1.length := fun i hi => by
  obtain ⟨q, hq, rfl⟩ := List.mem_map.1 hi
  exact h.hU.lt hq
 have hku : ∀ i, i ∈ (lay st.1.length a).arrs.map (·.1) → st.1.length ≤ i := fun i hi => by
  rw [YG, List.mem_range'_1] at hi; exact hi.1
 have hob : M ≤ ob := h.ge ob (by simp [Ye])
 have hMl : M ≤ st.1.length := by have := hlt ob (by simp [Ye]); omega
 rw [Yg] at hr hlt
 have hnd := h.nd
 rw [Yg] at hnd
 obtain ⟨cells, k1, k2, k3, k4, k5, k6⟩ := AD.graftW (lay st.1.length a) (ymf _ _) hua p st.2 x ob [] [] hr hnd (fun k hk hk2 => by have := hlt k hk; have := hku k hk2; omega) hx
 simp only [List.length_nil] at k1 k2 k3 k6
 have hs : yak a ob st p = ((st.1 ++ lobjs st.1.length a).set (AD.loc (ob, 0) st.2 p).1 (.arr (overlay cells (AD.loc (ob, 0) st.2 p).2 (lay st.1.length a).cells)), st.2.graft p (lay st.1.length a)) := by
  unfold yak
  rw [k1]
 have hlM : M ≤ (AD.loc (ob, 0) st.2 p).1 := h.ge _ (by rw [Yg]; exact k6)
 refine ⟨⟨?_, ?_, ?_⟩, by rw [hs], ?_, ?_, cells, k1, k2, by rw [hs]⟩
 ·rw [hs, Yg]; exact k3
 ·rw [hs, Yg]; exact k4
 ·intro i hi
  rw [hs] at hi
  rcases List.mem_cons.1 hi with e | hi
  ·rw [e]; exact hob
  ·rcases k5 i hi with hi | hi
   ·exact h.ge i (List.mem_cons_of_mem _ hi)
   ·have := hku i hi; omega
 ·rw [hs, List.take_set_of_le hlM, List.take_append_of_le_length hMl]
 ·rw [hs]; simp
def gK (a : D) (ob : Nat) (ps : List (List Int)) (st : List AObj × AD) (k : Nat) : List AObj × AD := (ps.take k).foldl (yak a ob) st
theorem yj9 {a : D} {ob : Nat} {ps : List (List Int)} {st : List AObj × AD} {k : Nat} {p : List Int} (h : ps[k]? = some p) : gK a ob ps st (k + 1) = yak a ob (gK a ob ps st k) p := by
 unfold gK
 rw [yA h, List.foldl_append]; rfl
/-- No place is below another one. -/
def yh3 (ps : List (List Int)) : Prop := ∀ p, p ∈ ps → ∀ q, q ∈ ps → ∀ i r, p ≠ q ++ i :: r
theorem ysx {gl : List (Nat × PV)} {tk : List Tok} {M ob : Nat} {st : List AObj × AD} (h : GOk gl tk M ob st) (a : D) {ps : List (List Int)} (hs : ∀ p, p ∈ ps → ∃ x, st.2.sub p = some x) (ha : yh3 ps) (h0 : ∀ p, p ∈ ps → ∀ j, j ∈ p → 0 ≤ j) : ∀ k, k ≤ ps.length →
  GOk gl tk M ob (gK a ob ps st k) ∧ (∀ p, p ∈ ps → ∃ x, (gK a ob ps st k).2.sub p = some x) ∧ (gK a ob ps st k).2.dat = (ps.take k).foldl (fun d p => d.graft p a) st.2.dat ∧ (gK a ob ps st k).1.take M = st.1.take M ∧ st.1.length ≤ (gK a ob ps st k).1.length := by
 intro k
 induction k with
 | zero => intro _; exact ⟨h, hs, rfl, rfl, Nat.le_refl _⟩
 | succ k ih =>
  intro hk
  obtain ⟨i1, i2, i3, i4, i5⟩ := ih (by omega)
  have hp : ps[k]? = some (ps[k]'(by omega)) := by simp
  have hpm := List.mem_of_getElem? hp
  obtain ⟨x, hx⟩ := i2 _ hpm
  obtain ⟨j1, j2, j3, j4, _⟩ := i1.step a hx
  rw [yj9 hp]
  refine ⟨j1, fun q hq => ?_, ?_, j3.trans i4, Nat.le_trans i5 j4⟩
  ·rw [j2]
   obtain ⟨y, hy⟩ := i2 q hq
   exact AD.graft_sub _ (h0 _ hpm) hy (ha q hq _ hpm)
  ·rw [j2, AD.graft_dat, ycm, i3, yA hp, List.foldl_append]; rfl
section
variable {P : Program} {ty : TyT} {σ0 : Store} {N : Nat} {s : St} {o : Oper} {ops : Array Oper} {os : List Oper} {K : St → Prop}
/-- A copy is written at a place. -/
theorem yhG {a : D} {gl : List (Nat × PV)} {tk : List Tok} {M ob : Nat} {st : List AObj × AD} {p : List Int} {x : AD} (hok : GOk gl tk M ob st) (hx : st.2.sub p = some x) (hs : s.σ = ⟨gl, st.1 ++ lobjs st.1.length a, tk⟩)
  (hty : TyOk P ty) {t : TypeId} {pp y : Operand} {ti : TyI} (hg : o.guard = none) (ho : o.op = .store t pp y) (hdst : o.dst = none) (hti : ty t = some ti) (h1 : ti.size = 4)
  (hp : ev s pp = .ptr (AD.loc (ob, 0) st.2 p).1 (AD.loc (ob, 0) st.2 p).2) (hy : ev s y = (lay st.1.length a).av) (k : yz P σ0 N ops os K ⟨s.T, s.L, ⟨gl, (yak a ob st p).1, tk⟩⟩) : yz P σ0 N ops (o :: os) K s := by
 obtain ⟨_, _, _, _, cells, k1, k2, k3⟩ := hok.step a hx
 refine YO hg (yaG hty (i := (AD.loc (ob, 0) st.2 p).1) (off := (AD.loc (ob, 0) st.2 p).2) (cs := cells) (ds := (lay st.1.length a).cells) ho hp hti (by rw [hs]; exact k1) (by rw [hy]; exact AD.av_cells _) (zM _ _) (by rw [h1, AD.cells_len]) (by rw [AD.cells_len]; exact k2) (by rw [hdst]; rfl) ?_)
 rw [hdst]
 simp only [St.put]
 rw [hs]
 simp only
 rw [← k3]
 exact k
end
/-- What a substitution leaves. -/
def sbPl (e : D) (x : ByteArray) : FSt := fnd x e [] [] ([], [])
def sbRn (e : D) (x : ByteArray) (a : D) : D × List ByteArray := zT (sbTo (sfree a [] []) (sbPl e x).2) e (yV [e, a] [])
def ycL (e : D) (x : ByteArray) (a : D) : D := (sbPl e x).1.foldl (fun d p => d.graft p a) (sbRn e x a).1
/-- The places are names. -/
theorem ykZ (x : ByteArray) : ∀ (d : D) (p : List Int) (sc : List (ByteArray × ByteArray)) (s : FSt) (q : List Int), q ∈ (fnd x d p sc s).1 → q ∈ s.1 ∨ ∃ r y, q = p ++ r ∧ d.sub r = some y ∧ yb y = 2 := by
 intro d
 induction d using D.indS with
 | h d ih =>
  intro p sc s q hq
  have up : ∀ (c : Aw.Sub × D), c ∈ subs d → (∃ r y, q = (p ++ c.1.p) ++ r ∧ c.2.sub r = some y ∧ yb y = 2) → ∃ r y, q = p ++ r ∧ d.sub r = some y ∧ yb y = 2 := by
   rintro c hc ⟨r, y, h1, h2, h3⟩
   exact ⟨c.1.p ++ r, y, by rw [h1, List.append_assoc], by rw [D.sub_append, D.sub_subs hc]; exact h2, h3⟩
  by_cases h2 : yb d = 2
  ·rw [yiJ h2] at hq
   split at hq
   ·simp only [List.mem_append, List.mem_singleton] at hq
    rcases hq with hq | hq
    ·exact .inl hq
    ·exact .inr ⟨[], d, by rw [hq]; simp, rfl, h2⟩
   ·exact .inl hq
  by_cases h5 : yb d = 5 ∨ yb d = 9
  ·rw [yio h5] at hq
   have hm : subL d 2 (d2 d.kids) ∈ subs d := by rw [y5 h5]; simp
   rcases ih _ hm _ _ _ _ hq with h | h
   ·exact .inl h
   ·exact .inr (up _ hm h)
  by_cases h6 : yb d = 6
  ·rw [ykx h6] at hq
   have hm : (⟨[2], []⟩, d2 d.kids) ∈ subs d := by rw [yQ h6]; simp
   have hm3 : subL d 3 (d.kids.getD 3 dnone) ∈ subs d := by rw [yQ h6]; simp
   rcases ih _ hm3 _ _ _ _ hq with h | h
   ·rcases ih _ hm _ _ _ _ h with h | h
    ·exact .inl h
    ·exact .inr (up _ hm h)
   ·exact .inr (up _ hm3 h)
  by_cases h7 : yb d = 7
  ·rw [ykj h7] at hq
   have hm : subL d 2 (d2 d.kids) ∈ subs d := by rw [y9 h7]; simp
   rcases ih _ hm _ _ _ _ hq with h | h
   ·have key : ∀ (inn : List (ByteArray × ByteArray)) (k : Nat), k ≤ (d1 d.kids).kids.length → q ∈ (fndD x d p inn k s).1 → q ∈ s.1 ∨ ∃ r y, q = p ++ r ∧ d.sub r = some y ∧ yb y = 2 := by
     intro inn k
     induction k with
     | zero => intro _ h; exact .inl h
     | succ k ihk =>
      intro hk h
      have hx : (d1 d.kids).kids[k]? = some ((d1 d.kids).kids[k]'(by omega)) := by simp
      rw [yhn hx] at h
      have hmk : subR d k ((d1 d.kids).kids[k]'(by omega)) ∈ subs d := by rw [y9 h7]; exact List.mem_append_left _ (List.mem_of_getElem? (by rw [zG, hx]; rfl))
      rcases ih _ hmk _ _ _ _ h with h | h
      ·exact ihk (by omega) h
      ·exact .inr (up _ hmk h)
    exact key _ _ (Nat.le_refl _) h
   ·exact .inr (up _ hm h)
  ·have hr : yb d ≠ 2 ∧ yb d ≠ 5 ∧ yb d ≠ 9 ∧ yb d ≠ 6 ∧ yb d ≠ 7 := by omega
   rw [← yfk hr] at hq
   have key : ∀ k, k ≤ (subs d).length → q ∈ (fndS x d p sc k s).1 → q ∈ s.1 ∨ ∃ r y, q = p ++ r ∧ d.sub r = some y ∧ yb y = 2 := by
    intro k
    induction k with
    | zero => intro _ h; exact .inl h
    | succ k ihk =>
     intro hk h
     have hx : (subs d)[k]? = some ((subs d)[k]'(by omega)) := by simp
     have hmk := List.mem_of_getElem? hx
     rw [ydm hx] at h
     rcases ih _ hmk _ _ _ _ h with h | h
     ·exact ihk (by omega) h
     ·exact .inr (up _ hmk h)
   exact key _ (Nat.le_refl _) hq
theorem yfz : ∀ (p : List Int) (d y : D), formed d = true → d.sub p = some y → formed y = true
 | [], d, y, h, hy => by cases hy; exact h
 | i :: p, d, y, h, hy => by
  simp only [D.sub] at hy
  split at hy
  ·obtain ⟨c, hc, hy⟩ := Option.bind_eq_some_iff.1 hy
   exact yfz p c y (yO h (List.mem_of_getElem? hc)) hy
  ·cases hy
theorem ynd {y : D} (h : yb y = 2) : y.kind = 2 := by
 unfold yb at h
 by_cases h1 : (y.kind == 1) = true
 ·rw [if_pos h1] at h; cases h
 ·rw [if_neg h1] at h
  by_cases h2 : (y.kind == 2) = true
  ·simpa using h2
  ·rw [if_neg h2] at h
   exfalso
   split at h
   ·cases h
   ·split at h
    ·split at h <;> cases h
    ·split at h
     ·rename_i hf
      rw [h] at hf
      simp [fmOk] at hf
     ·cases h
theorem Z4 {x : ByteArray} {e : D} {p : List Int} (h : p ∈ (sbPl e x).1) : ∃ y, e.sub p = some y ∧ yb y = 2 := by
 rcases ykZ x e [] [] ([], []) p h with h | ⟨r, y, h1, h2, h3⟩
 ·simp at h
 ·exact ⟨y, by rw [h1]; exact h2, h3⟩
theorem yiC {x : ByteArray} {e : D} (hf : formed e = true) : yh3 (sbPl e x).1 := by
 intro p hp q hq i r he
 obtain ⟨y, hy, _⟩ := Z4 hp
 obtain ⟨z, hz, hz2⟩ := Z4 hq
 have hk := (ycx (yfz q e z hf hz) (ynd hz2)).2.1
 rw [he, D.sub_append, hz] at hy
 simp only [Option.bind_some, D.sub, hk] at hy
 split at hy
 ·simp at hy
 ·cases hy
end Go.Aw

namespace Go.Aw
open Go
mutual
def peq : PV → PV → Bool
 | .slice xs, .slice ys => peqs xs ys
 | .agg xs, .agg ys => peqs xs ys
 | .ptr xs, .ptr ys => peqs xs ys
 | .int k n, .int j m => zR (.int k n) (.int j m)
 | .bool a, .bool b => a == b
 | .str a, .str b => decide (a = b)
 | .nils, .nils => true
 | .nilp, .nilp => true
 | .nilif, .nilif => true
 | .nilmap, .nilmap => true
 | .nilfn, .nilfn => true
 | _, _ => false
def peqs : List PV → List PV → Bool
 | [], [] => true
 | x :: xs, y :: ys => peq x y && peqs xs ys
 | _, _ => false
end
mutual
theorem ymO : ∀ {a b : PV}, peq a b = true → a = b
 | .slice xs, b, h => by cases b <;> simp [peq] at h; rw [yeh h]
 | .agg xs, b, h => by cases b <;> simp [peq] at h; rw [yeh h]
 | .ptr xs, b, h => by cases b <;> simp [peq] at h; rw [yeh h]
 | .int k n, b, h => by cases b <;> simp [peq] at h; exact ybM h
 | .bool a, b, h => by cases b <;> simp [peq] at h; rw [h]
 | .str a, b, h => by cases b <;> simp [peq] at h; rw [h]
 | .nils, b, h => by cases b <;> simp [peq] at h; rfl
 | .nilp, b, h => by cases b <;> simp [peq] at h; rfl
 | .nilif, b, h => by cases b <;> simp [peq] at h; rfl
 | .nilmap, b, h => by cases b <;> simp [peq] at h; rfl
 | .nilfn, b, h => by cases b <;> simp [peq] at h; rfl
 | .iface t p, b, h => by cases b <;> simp [peq] at h
 | .map ks vs, b, h => by cases b <;> simp [peq] at h
 | .tab k zs, b, h => by cases b <;> simp [peq] at h
theorem yeh : ∀ {a b : List PV}, peqs a b = true → a = b
 | [], [], _ => rfl
 | x :: xs, y :: ys, h => by
  simp only [peqs, Bool.and_eq_true] at h
  rw [ymO h.1, yeh h.2]
 | [], _ :: _, h => by simp [peqs] at h
 | _ :: _, [], h => by simp [peqs] at h
end
/-- Does the run give this, and leave nothing? -/
def gives (o : Option (AV × Store)) (q : PV) : Bool :=
 match o with
 | some (r, σ) => match r, σ.objs, σ.toks with
  | .pv p, [], [] => peq p q
  | _, _, _ => false
 | none => false

theorem YV {C : Cfg} {G : List (Nat × PV)} (H : CfgOk C G) {n : Nat} {f : FuncId} {args : List AV} {q : PV} (h : gives (evF C n f args ⟨G, [], []⟩) q = true) : zo C.P ⟨G, [], []⟩ f args (.pv q) := by
 cases he : evF C n f args ⟨G, [], []⟩ with
 | none => rw [he] at h; cases h
 | some p =>
  obtain ⟨r, σ'⟩ := p
  rw [he] at h
  have hg := yit he
  have hc := (yi7 H n).1 f args ⟨G, [], []⟩ r σ' rfl he
  obtain ⟨gl, objs, toks⟩ := σ'
  simp only [gives] at h
  split at h
  ·simp only at hg
   subst hg
   rw [ymO h] at hc
   exact hc
  ·cases h
end Go.Aw

namespace Go.Aw
open Go
/-! ### a datum cut: as far as there is room -/
def cutX (s : ByteArray) : ByteArray := s.extract 0 (if (42 : Int) < s.size then (42 : Int) else s.size).toNat
def cutS (f : D → Nat → D × Nat) (st : List D × Nat) (k : D) : List D × Nat := if st.2 = 0 then st else (st.1 ++ [(f k st.2).1], (f k st.2).2)
def cutD : Nat → D → Nat → D × Nat
 | 0, d, lf => (.mk d.kind d.num (cutX d.text) [], lf - 1)
 | n + 1, d, lf =>
  let r := if n = 0 then ([], lf - 1) else d.kids.foldl (cutS (cutD n)) ([], lf - 1)
  (.mk d.kind d.num (cutX d.text) r.1, r.2)
theorem yml (f : D → Nat → D × Nat) (l : List D) (st : List D × Nat) (h : st.2 = 0) : l.foldl (cutS f) st = st := by
 induction l with
 | nil => rfl
 | cons x l ih => rw [List.foldl_cons]; unfold cutS; rw [if_pos h]; exact ih
/-- The kids that are cut already: as many as are there. -/
def cutI (n : Nat) (d : D) (lf : Nat) (i : List D × Nat) : Prop := i.1.length ≤ d.kids.length ∧ (if n = 0 then i = ([], lf - 1) else i = (d.kids.take i.1.length).foldl (cutS (cutD n)) ([], lf - 1)) ∧ D.sizes i.1 + i.2 + 1 ≤ lf
theorem ymN {n : Nat} {d : D} {lf : Nat} (h : 0 < lf) : cutI n d lf ([], lf - 1) := by
 refine ⟨Nat.zero_le _, ?_, by simp [D.sizes]; omega⟩
 split <;> rfl
theorem ynt {n : Nat} {d : D} {lf : Nat} {i : List D × Nat} {x : D} (h : cutI n d lf i) (hn : n ≠ 0) (h2 : 0 < i.2) (hx : d.kids[i.1.length]? = some x) (hs : (cutD n x i.2).1.size + (cutD n x i.2).2 ≤ i.2) :
  cutI n d lf (i.1 ++ [(cutD n x i.2).1], (cutD n x i.2).2) := by
 obtain ⟨h1, h3, h4⟩ := h
 rw [if_neg hn] at h3
 have hlt := (List.getElem?_eq_some_iff.1 hx).1
 refine ⟨by simp; omega, ?_, by simp [ZV, D.sizes]; omega⟩
 rw [if_neg hn]
 simp only [List.length_append, List.length_cons, List.length_nil, Nat.zero_add]
 rw [yA hx, List.foldl_append, ← h3]
 simp only [List.foldl_cons, List.foldl_nil]
 unfold cutS
 rw [if_neg (by omega)]
theorem yfc {n : Nat} {d : D} {lf : Nat} {i : List D × Nat} (h : cutI n d lf i) (he : i.1.length = d.kids.length ∨ n = 0 ∨ i.2 = 0) : cutD (n + 1) d lf = (.mk d.kind d.num (cutX d.text) i.1, i.2) := by
 obtain ⟨h1, h3, h4⟩ := h
 unfold cutD
 by_cases hn : n = 0
 ·rw [if_pos hn] at h3 ⊢
  rw [h3]
 ·rw [if_neg hn] at h3 ⊢
  have : d.kids.foldl (cutS (cutD n)) ([], lf - 1) = i := by
   rcases he with he | he | he
   ·rw [he, List.take_length] at h3; exact h3.symm
   ·exact absurd he hn
   ·conv => lhs; rw [← List.take_append_drop i.1.length d.kids, List.foldl_append, ← h3]
    exact yml _ _ _ he
  simp only [this]
theorem ydq : ∀ (n : Nat) (d : D) (lf : Nat), 0 < lf → (cutD n d lf).1.size + (cutD n d lf).2 ≤ lf
 | 0, d, lf, h => by simp [cutD, D.size, D.sizes]; omega
 | n + 1, d, lf, h => by
  unfold cutD
  by_cases hn : n = 0
  ·simp [hn, D.size, D.sizes]; omega
  ·simp only [hn, if_false]
   have key : ∀ (l : List D) (st : List D × Nat), D.sizes st.1 + st.2 + 1 ≤ lf → D.sizes (l.foldl (cutS (cutD n)) st).1 + (l.foldl (cutS (cutD n)) st).2 + 1 ≤ lf := by
    intro l
    induction l with
    | nil => intro st h; exact h
    | cons x l ih =>
     intro st hst
     rw [List.foldl_cons]
     refine ih _ ?_
     unfold cutS
     split
     ·exact hst
     ·have := ydq n x st.2 (by omega)
      simp [ZV, D.sizes]; omega
   have := key d.kids ([], lf - 1) (by simp [D.sizes]; omega)
   simp only [D.size]; omega
theorem yl4 {P : Program} {f : FuncId} {args : List AV} {σ : Store} {oc : Nat} {n : Nat} {d : D} {lf : Nat} {k m : Int} {tx : ByteArray}
  (h : ACalls P f args σ fun r σ' => ∃ (out : List D) (lv : Nat), WVt σ.objs.length σ.toks.length 0 r (.pv (enc (.mk k m tx out))) ∧ σ'.cut σ.objs.length σ.toks.length = setC σ oc lv ∧ (D.mk k m tx out, lv) = cutD n d lf) : ACalls P f args σ fun r σ' => ∃ y, y = cutD n d lf ∧ r = .pv (enc y.1) ∧ σ' = setC σ oc (y.2 : Int) := by
 refine h.less ?_
 rintro r σ' ⟨out, lv, h1, h2, h3⟩
 refine ⟨_, _, _, h1, Nat.le_refl _, Nat.le_refl _, fun ob hob => ?_, ⟨_, h3, rfl, h2⟩⟩
 have h4 : σ'.objs.take σ.objs.length = (setC σ oc lv).objs := congrArg Store.objs h2
 rw [h4] at hob
 exact yaV hob _ _ _
theorem yr (s : ByteArray) : reserved s = zu s := by
 rcases yeN s with ⟨e, h⟩ | ⟨e, h⟩ | ⟨e, h⟩ | ⟨e, h⟩ | ⟨e, h⟩ | ⟨e, h⟩ | ⟨e, h⟩ | ⟨hn, h⟩
 ·subst e; decide
 ·subst e; decide
 ·subst e; decide
 ·subst e; decide
 ·subst e; decide
 ·subst e; decide
 ·subst e; decide
 ·rw [h]
  have h0 := yhF s
  have : (Yl.any fun w => decide (w = s)) = false := by
   rw [List.any_eq_false]
   intro w hw
   rw [List.find?_eq_none] at hn
   have hm : ∃ n, (w, n) ∈ ybx := by
    simp only [Yl, List.mem_cons, List.not_mem_nil, or_false] at hw
    rcases hw with rfl | rfl | rfl | rfl | rfl | rfl | rfl
    ·exact ⟨3, .head _⟩
    ·exact ⟨4, .tail _ (.head _)⟩
    ·exact ⟨5, .tail _ (.tail _ (.head _))⟩
    ·exact ⟨6, .tail _ (.tail _ (.tail _ (.head _)))⟩
    ·exact ⟨7, .tail _ (.tail _ (.tail _ (.tail _ (.head _))))⟩
    ·exact ⟨8, .tail _ (.tail _ (.tail _ (.tail _ (.tail _ (.head _)))))⟩
    ·exact ⟨9, .tail _ (.tail _ (.tail _ (.tail _ (.tail _ (.tail _ (.head _))))))⟩
   obtain ⟨n, hm⟩ := hm
   exact hn _ hm
  rw [this] at h0
  simpa using h0
theorem ydj {d : D} (hf : formed d = true) : (d.kind == 2 && ybe d.text) = nmS d := by
 unfold nmS ybe
 by_cases hk : d.kind = 2
 ·have h := (ycx hf hk).2.2
  rw [ZX, h, yr]; simp
 ·have : (d.kind == 2) = false := by simpa using hk
  rw [this]; rfl
end Go.Aw

namespace Go.Aw
open Go
/-- A binding: a name, the path of what binds it, and which of its names it is. -/
structure Bd where
 nm : ByteArray
 p : List Int
 i : Int
def zW (b : Bd) : PV := .agg [.str b.nm, .slice (b.p.map (.int .i64)), .int .i64 b.i]
@[go_sem] theorem yjE (b : Bd) : (zW b).cells = [.str b.nm, .slice (b.p.map (.int .i64)), .int .i64 b.i] := rfl
@[go_sem] theorem ys5 (l : List Bd) : yX 3 (l.map zW) = true := by simp [yX, yjE]
@[go_sem] theorem ytf (b : Bd) : (zW b).nrm = zW b := rfl
structure Vr where
 nm : ByteArray
 p : List Int
 env : List Bd
def Z5 (v : Vr) : PV := .agg [.str v.nm, .slice (v.p.map (.int .i64)), .slice (v.env.map zW)]
@[go_sem] theorem yjo (v : Vr) : (Z5 v).cells = [.str v.nm, .slice (v.p.map (.int .i64)), .slice (v.env.map zW)] := rfl
@[go_sem] theorem ys1 (l : List Vr) : yX 3 (l.map Z5) = true := by simp [yX, yjo]
@[go_sem] theorem ytd (v : Vr) : (Z5 v).nrm = Z5 v := rfl
/-- New bindings, in order. -/
def bdW (p : List Int) (n : Int) (ns : List ByteArray) : List Bd := mapI (fun i x => ⟨x, p, n + (i : Int)⟩) ns
def bdS (p : List Int) (ns : List (ByteArray × Int)) : List Bd := ns.reverse.map fun x => ⟨x.1, p, x.2⟩
theorem yaW (p : List Int) (l : List ByteArray) (n : Int) : bdS p (numb l n).reverse = bdW p n l := by
 unfold bdS bdW numb
 rw [List.reverse_reverse]
 apply List.ext_getElem?
 intro i
 rw [List.getElem?_map, zG, zG]
 cases l[i]? <;> rfl
theorem ypG (p : List Int) (a b : List (ByteArray × Int)) : bdS p (a ++ b) = bdS p b ++ bdS p a := by unfold bdS; rw [List.reverse_append, List.map_append]
theorem ypa {p : List Int} {n : Int} {l : List ByteArray} {k : Nat} {x : ByteArray} (h : l[k]? = some x) : (bdW p n l).take (k + 1) = (bdW p n l).take k ++ [⟨x, p, n + (k : Int)⟩] := ymj h
theorem ygp (p : List Int) (n : Int) (l : List ByteArray) : (bdW p n l).length = l.length := zx _ _
theorem yrd (p : List Int) (ns : List (ByteArray × Int)) : (bdS p ns).map Bd.nm = (ns.map (·.1)).reverse := by
 unfold bdS; rw [List.map_map, ← List.map_reverse]; rfl
/-- What is bound around the parts of an expression. -/
def scps (d : D) (p : List Int) (env : List Bd) : List (List Bd) := (subs d).map fun q => env ++ bdS p q.1.ns
/-- The variables in an expression, in preorder. -/
def rvars : D → List Int → List Bd → List Vr :=
 scata (fun d rs p env => if (yb d == 2) = true then [⟨d.text, p, env⟩] else rs.flatMap fun q => q.2 (p ++ q.1.p) (env ++ bdS p q.1.ns))
theorem ya5 (d : D) (p : List Int) (env : List Bd) : rvars d p env = if (yb d == 2) = true then [⟨d.text, p, env⟩] else (subs d).flatMap fun q => rvars q.2 (p ++ q.1.p) (env ++ bdS p q.1.ns) := by
 show scata (β := List Int → List Bd → List Vr) _ d p env = _
 rw [Zg, List.flatMap_map]; rfl
theorem yhh : ∀ (d : D) (p : List Int) (env : List Bd), (rvars d p env).length ≤ d.size := by
 intro d
 induction d using D.indS with
 | h d ih =>
  intro p env
  rw [ya5]
  split
  ·have := D.size_pos d; simp only [List.length_cons, List.length_nil]; omega
  ·have hb := yaz d
   have : ∀ (r : List (Sub × D)), (∀ q, q ∈ r → ∀ p env, (rvars q.2 p env).length ≤ q.2.size) → (r.flatMap fun q => rvars q.2 (p ++ q.1.p) (env ++ bdS p q.1.ns)).length ≤ (r.map fun q => q.2.size).sum := by
    intro r
    induction r with
    | nil => intro _; simp
    | cons q r ihr =>
     intro h
     have h1 := h q (by simp) (p ++ q.1.p) (env ++ bdS p q.1.ns)
     have h2 := ihr fun x hx => h x (by simp [hx])
     simp only [List.flatMap_cons, List.length_append, List.map_cons, List.sum_cons]; omega
   have h3 := this (subs d) ih
   omega
/-- The binding that a name means. -/
def YA (x : ByteArray) (env : List Bd) : Option Bd := env.reverse.find? fun b => decide (b.nm = x)
theorem ymx (x : ByteArray) (env : List Bd) : (YA x env).isSome = memB (env.map Bd.nm) x := by
 unfold YA
 rw [Bool.eq_iff_iff, List.find?_isSome, ygU, List.mem_map]
 constructor
 ·rintro ⟨b, hb, h⟩
  exact ⟨b, List.mem_reverse.1 hb, by simpa using h⟩
 ·rintro ⟨b, hb, h⟩
  exact ⟨b, List.mem_reverse.2 hb, by simpa using h⟩
/-- The names that are free, in the order in which they are met. -/
def rfK (vs : List Vr) (S : List ByteArray) : List ByteArray := vs.foldl (fun S v => if (YA v.nm v.env).isSome = true then S else addS S v.nm) S
theorem yiX {vs : List Vr} {k : Nat} {v : Vr} {S : List ByteArray} (h : vs[k]? = some v) : rfK (vs.take (k + 1)) S = if (YA v.nm v.env).isSome = true then rfK (vs.take k) S else addS (rfK (vs.take k) S) v.nm := by
 unfold rfK
 rw [yA h, List.foldl_append]; rfl
theorem yoV : ∀ (d : D) (p : List Int) (env : List Bd) (l S : List ByteArray), (∀ x, memB (env.map Bd.nm) x = memB l x) → rfK (rvars d p env) S = sfree d l S := by
 intro d
 induction d using D.indS with
 | h d ih =>
  intro p env l S hl
  rw [ya5, Zb]
  split
  ·show (if (YA d.text env).isSome = true then S else addS S d.text) = _
   rw [ymx, hl]
  ·have key : ∀ (r : List (Sub × D)) (S : List ByteArray), (∀ q, q ∈ r → q ∈ subs d) → rfK (r.flatMap fun q => rvars q.2 (p ++ q.1.p) (env ++ bdS p q.1.ns)) S = r.foldl (fun S q => sfree q.2 (q.1.ns.map (·.1) ++ l) S) S := by
    intro r
    induction r with
    | nil => intro S _; rfl
    | cons q r ihr =>
     intro S h
     rw [List.flatMap_cons, List.foldl_cons, ← ihr _ fun x hx => h x (by simp [hx])]
     unfold rfK
     rw [List.foldl_append]
     have := ih q (h q (by simp)) (p ++ q.1.p) (env ++ bdS p q.1.ns) (q.1.ns.map (·.1) ++ l) S (by
      intro x
      rw [List.map_append, yfg, yfg, hl, yrd]
      have : memB (q.1.ns.map (·.1)).reverse x = memB (q.1.ns.map (·.1)) x := by unfold memB; rw [List.any_reverse]
      rw [this, Bool.or_comm])
     unfold rfK at this
     rw [this]
   exact key _ S fun _ h => h
/-! ### rising order -/
def ltB (x y : ByteArray) : Bool := Op.bytesLess x.toList y.toList
def leB (x y : ByteArray) : Bool := Op.bytesLess x.toList y.toList || (x.toList == y.toList)
/-- A string put among others: what is there after the first ones, and whether it is in. -/
def insS (x : ByteArray) (st : List ByteArray × Bool) (y : ByteArray) : List ByteArray × Bool :=
 if (!st.2 && leB x y) = true then ((if ltB x y = true then st.1 ++ [x] else st.1) ++ [y], true) else (st.1 ++ [y], st.2)
def insK (x : ByteArray) (out : List ByteArray) (k : Nat) : List ByteArray × Bool := (out.take k).foldl (insS x) ([], false)
def insB (out : List ByteArray) (x : ByteArray) : List ByteArray := if (insK x out out.length).2 = true then (insK x out out.length).1 else (insK x out out.length).1 ++ [x]
def Y9 (l : List ByteArray) (k : Nat) : List ByteArray := (l.take k).foldl insB []
/-- Strings, each once, in rising order. -/
def rsort (l : List ByteArray) : List ByteArray := Y9 l l.length
theorem ygR {x y : ByteArray} {out : List ByteArray} {k : Nat} (h : out[k]? = some y) : insK x out (k + 1) = insS x (insK x out k) y := by
 unfold insK; rw [yA h, List.foldl_append]; rfl
theorem ycB {l : List ByteArray} {k : Nat} {x : ByteArray} (h : l[k]? = some x) : Y9 l (k + 1) = insB (Y9 l k) x := by
 unfold Y9; rw [yA h, List.foldl_append]; rfl
theorem yh1 (x : ByteArray) (out : List ByteArray) (k : Nat) (h : k ≤ out.length) : (insK x out k).1.length ≤ k + (if (insK x out k).2 = true then 1 else 0) := by
 induction k with
 | zero => simp [insK]
 | succ k ih =>
  have hx : out[k]? = some (out[k]'(by omega)) := by simp
  have ih := ih (by omega)
  rw [ygR hx]
  unfold insS
  generalize insK x out k = st at ih
  obtain ⟨a, b⟩ := st
  cases b <;> simp at ih ⊢ <;> (repeat' split) <;> simp_all <;> omega
theorem yoB (out : List ByteArray) (x : ByteArray) : (insB out x).length ≤ out.length + 1 := by
 have := yh1 x out out.length (Nat.le_refl _)
 unfold insB
 split
 ·rename_i h; rw [if_pos h] at this; exact this
 ·rename_i h; rw [if_neg h] at this; simp; omega
theorem ylJ (l : List ByteArray) (k : Nat) (h : k ≤ l.length) : (Y9 l k).length ≤ k := by
 induction k with
 | zero => simp [Y9]
 | succ k ih =>
  have hx : l[k]? = some (l[k]'(by omega)) := by simp
  rw [ycB hx]
  have := yoB (Y9 l k) (l[k]'(by omega))
  have := ih (by omega)
  omega
def insR (x : ByteArray) : List ByteArray → List ByteArray
 | [] => [x]
 | y :: r => if leB x y = true then (if ltB x y = true then x :: y :: r else y :: r) else y :: insR x r
theorem ygL (x : ByteArray) : ∀ (r a : List ByteArray), r.foldl (insS x) (a, true) = (a ++ r, true)
 | [], a => by simp
 | y :: r, a => by
  rw [List.foldl_cons]
  show r.foldl (insS x) (a ++ [y], true) = _
  rw [ygL x r]; simp
theorem yh6 (x : ByteArray) : ∀ (r a : List ByteArray), (if (r.foldl (insS x) (a, false)).2 = true then (r.foldl (insS x) (a, false)).1 else (r.foldl (insS x) (a, false)).1 ++ [x]) = a ++ insR x r
 | [], a => by simp [insR]
 | y :: r, a => by
  rw [List.foldl_cons]
  unfold insR
  by_cases h : leB x y = true
  ·have e : insS x (a, false) y = ((if ltB x y = true then a ++ [x] else a) ++ [y], true) := by unfold insS; rw [if_pos (by simpa using h)]
   rw [e, ygL, if_pos rfl, if_pos h]
   split <;> simp
  ·have e : insS x (a, false) y = (a ++ [y], false) := by unfold insS; rw [if_neg (by simpa using h)]
   rw [e, yh6 x r, if_neg h]; simp
theorem yqB (out : List ByteArray) (x : ByteArray) : insB out x = insR x out := by
 have := yh6 x out []
 unfold insB insK
 rw [List.take_length]
 exact this
theorem ykq (x y : ByteArray) : ltB x y = true ↔ x.data.toList < y.data.toList := by
 unfold ltB
 rw [Proofs.bytesLess_eq, Lib.toList_data, Lib.toList_data, decide_eq_true_eq]
theorem ygs (x y : ByteArray) : leB x y = true ↔ x.data.toList ≤ y.data.toList := by
 have h := ykq x y
 unfold ltB at h
 unfold leB
 rw [Bool.or_eq_true, h, Lib.toList_data, Lib.toList_data, beq_iff_eq]
 exact List.le_iff_lt_or_eq.symm
theorem yhd (x : ByteArray) : ∀ (l : List ByteArray), ¬ x ∈ l → (insR x l).Perm (x :: l)
 | [], _ => .refl _
 | y :: r, h => by
  unfold insR
  split
  ·rename_i h1
   split
   ·exact .refl _
   ·rename_i h2
    exfalso
    rw [ygs, List.le_iff_lt_or_eq] at h1
    rcases h1 with h1 | h1
    ·exact h2 ((ykq x y).2 h1)
    ·exact h (by
      have : x = y := ByteArray.ext (Array.toList_inj.1 h1)
      rw [this]; simp)
  ·exact ((yhd x r fun hm => h (by simp [hm])).cons y).trans (List.Perm.swap _ _ _)
theorem yiH (x : ByteArray) : ∀ (l : List ByteArray) (z : ByteArray), z ∈ insR x l → z = x ∨ z ∈ l
 | [], z, h => by simp [insR] at h; exact .inl h
 | y :: r, z, h => by
  unfold insR at h
  split at h
  ·split at h
   ·simp at h ⊢; exact h
   ·simp at h ⊢; exact .inr h
  ·rcases List.mem_cons.1 h with h | h
   ·exact .inr (by simp [h])
   ·rcases yiH x r z h with h | h
    ·exact .inl h
    ·exact .inr (by simp [h])
theorem yel (x : ByteArray) : ∀ (l : List ByteArray), (l.map fun s => s.data.toList).Pairwise (· ≤ ·) → ((insR x l).map fun s => s.data.toList).Pairwise (· ≤ ·)
 | [], _ => by simp [insR]
 | y :: r, h => by
  simp only [List.map_cons, List.pairwise_cons] at h
  unfold insR
  split
  ·rename_i h1
   rw [ygs] at h1
   split
   ·simp only [List.map_cons, List.pairwise_cons]
    refine ⟨fun z hz => ?_, h⟩
    rcases List.mem_cons.1 hz with rfl | hz
    ·exact h1
    ·exact List.le_trans h1 (h.1 z hz)
   ·simp only [List.map_cons, List.pairwise_cons]; exact h
  ·rename_i h1
   rw [ygs] at h1
   simp only [List.map_cons, List.pairwise_cons]
   refine ⟨fun z hz => ?_, yel x r h.2⟩
   obtain ⟨u, hu, rfl⟩ := List.mem_map.1 hz
   rcases yiH x r u hu with rfl | hu
   ·exact (List.le_total _ _).resolve_left h1
   ·exact h.1 _ (List.mem_map.2 ⟨u, hu, rfl⟩)
theorem ykX (l : List ByteArray) (hn : l.Nodup) : ∀ k, k ≤ l.length → (Y9 l k).Perm (l.take k) ∧ ((Y9 l k).map fun s => s.data.toList).Pairwise (· ≤ ·) := by
 intro k
 induction k with
 | zero => intro _; simp [Y9]
 | succ k ih =>
  intro hk
  obtain ⟨h1, h2⟩ := ih (by omega)
  have hx : l[k]? = some (l[k]'(by omega)) := by simp
  rw [ycB hx, yqB, yA hx]
  refine ⟨(yhd _ _ fun hm => ?_).trans ((h1.cons _).trans (List.perm_append_singleton _ _).symm), yel _ _ h2⟩
  have hm := h1.mem_iff.1 hm
  obtain ⟨i, hi, e⟩ := List.getElem_of_mem hm
  rw [List.length_take] at hi
  rw [List.getElem_take] at e
  have := List.pairwise_iff_getElem.1 (List.nodup_iff_pairwise_ne.1 hn) i k (by omega) (by omega) (by omega)
  exact this e
theorem ynT {l : List ByteArray} (hn : l.Nodup) : rsort l = Ys l := by
 obtain ⟨h1, h2⟩ := ykX l hn l.length (Nat.le_refl _)
 rw [List.take_length] at h1
 have hp : ((rsort l).map fun s => s.data.toList) = (l.map fun s => s.data.toList).mergeSort fun x y => decide (x ≤ y) := by
  refine yag (r := fun x y => (decide (x ≤ y)) = true) (fun a b h1 h2 => List.le_antisymm (by simpa using h1) (by simpa using h2)) ?_ (h2.imp fun h => by simpa using h) (List.pairwise_mergeSort (le := fun x y => decide (x ≤ y)) ydR ydr _)
  exact (h1.map _).trans (List.mergeSort_perm _ _).symm
 unfold Ys
 rw [← hp, List.map_map]
 have : (bstr ∘ fun s : ByteArray => s.data.toList) = id := by funext s; simp [bstr]
 rw [this, List.map_id]
theorem ylL (vs : List Vr) : ∀ S : List ByteArray, S.Nodup → (rfK vs S).Nodup := by
 induction vs with
 | nil => intro S h; exact h
 | cons v vs ih =>
  intro S h
  show (rfK vs (if (YA v.nm v.env).isSome = true then S else addS S v.nm)).Nodup
  refine ih _ ?_
  split
  ·exact h
  ·unfold addS
   split
   ·exact h
   ·rename_i hm
    rw [List.nodup_append]
    refine ⟨h, by simp, ?_⟩
    intro a ha b hb e
    rw [List.mem_singleton] at hb
    subst hb e
    exact hm (yfa.2 ha)
theorem yor (d : D) : rsort (rfK (rvars d [] []) []) = Ys (sfree d [] []) := by
 have h := yoV d [] [] [] [] (fun x => rfl)
 rw [ynT (ylL _ [] (by simp)), h]
end Go.Aw

namespace Go.Aw
open Go
section
variable {P : Program} {ty : TyT} {σ0 : Store} {N : Nat} {s s' : St} {Q : Exit → St → Prop}
theorem ybj {c : Code} {ι : Type} (no nt nl : Nat) (keep : List Nat) (m : ι → List (Nat × AV)) (L : ι → List (List AV)) (σf : ι → Store) (I : ι → Prop) (μ : ι → Nat) (i0 : ι) (hi0 : I i0) (h0 : Weak σ0 no nt nl s (YD s keep (m i0) (L i0) (σf i0)))
  (round : ∀ i, I i → AWp P σ0 N c (Then (Next σ0 (fun i => YD s keep (m i) (L i) (σf i)) I μ i) Q) (YD s keep (m i) (L i) (σf i))) : AWp P σ0 N (.loop c) Q s :=
 ydG (fun i => YD s keep (m i) (L i) (σf i)) I μ i0 hi0 h0 round

/-- A slice without room that stands in a private box may be appended to from now on. -/
theorem yk9 {c : Code} (i j : Nat) {cs : List AV} {x : AV} {xs : List PV} (e : TypeId) (sz : Nat) (hL : s.L[i]? = some cs) (hx : cs[j]? = some x) (hf : x.fullElems = some xs) (hs : yX sz xs = true)
  (k : AWp P σ0 N c Q ⟨s.T, s.L.set i (cs.set j (.acc xs s.σ.toks.length)), { s.σ with toks := s.σ.toks ++ [⟨xs.length, e, sz⟩] }⟩) : AWp P σ0 N c Q s := by
 rintro g0 w0 a w ⟨g, r⟩
 obtain ⟨i1, le1⟩ := r.2.1.adopt ⟨xs.length, e, sz⟩
 have i2 : Inv { g with tb := g.tb ++ [none] } { s.σ with toks := s.σ.toks ++ [⟨xs.length, e, sz⟩] } (s.L.set i (cs.set j (.acc xs s.σ.toks.length))) w := by
  refine ⟨i1.lio, by simp only [List.length_set]; exact i1.llam, i1.ltb, i1.glob, i1.nodup, i1.low, i1.kept, i1.base, i1.cells, i1.objs, fun o ds b hds hb => ?_, i1.toks⟩
  rw [List.getElem?_set] at hds
  split at hds
  ·subst_vars
   rw [if_pos (List.getElem?_eq_some_iff.1 hL).1] at hds
   cases hds
   obtain ⟨vs, e', h1, h2, h3, h4⟩ := r.2.1.priv _ cs b hL hb
   refine ⟨vs, e', h1, by rw [List.length_set]; exact h2, h3, fun n y v hy hv => ?_⟩
   rw [List.getElem?_set] at hy
   split at hy
   ·subst_vars
    split at hy
    ·cases hy
     exact (h4 _ x v hx hv).adopt hf r.2.1 ⟨xs.length, e, sz⟩ rfl (by simpa [yX] using hs)
    ·cases hy
   ·exact (h4 n y v hy hv).mono le1 (fun _ _ h => h)
  ·exact i1.priv o ds b hds hb
 exact k g0 w0 a w ⟨_, r.later (σ' := { s.σ with toks := s.σ.toks ++ [⟨xs.length, e, sz⟩] }) (L' := s.L.set i (cs.set j (.acc xs s.σ.toks.length))) le1 (fun _ _ h => h) i2 rfl rfl (fun _ _ => rfl) (Nat.le_refl _) rfl rfl rfl⟩

def yis (s : St) (i j : Nat) (e : TypeId) (sz : Nat) : Option St :=
 match s.L[i]? with
 | some cs => match cs[j]? with
  | some x => match x.fullElems with
   | some xs => if yX sz xs = true then some ⟨s.T, s.L.set i (cs.set j (.acc xs s.σ.toks.length)), { s.σ with toks := s.σ.toks ++ [⟨xs.length, e, sz⟩] }⟩ else none
   | none => none
  | none => none
 | none => none

theorem yj2 {c : Code} (i j : Nat) (e : TypeId) (sz : Nat) (h : yis s i j e sz = some s') (k : AWp P σ0 N c Q s') : AWp P σ0 N c Q s := by
 unfold yis at h
 split at h
 ·split at h
  ·split at h
   ·split at h
    ·cases h; exact yk9 i j e sz ‹_› ‹_› ‹_› ‹_› k
    ·cases h
   ·cases h
  ·cases h
 ·cases h
end
attribute [go_sem] yis
theorem ymJ {σ : Store} {o : Nat} {v v' : Int} {T : List Tok} : setC { setC σ o v with toks := T } o v' = { setC σ o v' with toks := T } := by simp [setC]
theorem yjf (k n : Int) (t : ByteArray) (l : List D) : enc (.mk k n t l) = .agg [.int .i64 k, .int .i64 n, .str t, .slice (l.map enc)] := by rw [yaw]; rfl
end Go.Aw

namespace Go.Aw
open Go
theorem yjI {d : D} (hf : formed d = true) (hk : d.kind = 2) : ybe d.text = (zu d.text == 0) := by
 have h := (ycx hf hk).2.2
 unfold ybe
 rw [ZX, h, yr]; simp
theorem yn4 (s : ByteArray) : decide (0 < zu s) = !(zu s == 0) := by
 have := ybH s
 by_cases h : zu s = 0
 ·rw [h]; rfl
 ·have h1 : 0 < zu s := by omega
  have h2 : (zu s == 0) = false := by simpa using h
  rw [h2]; simpa using h1
/-- A list of different names: no. -/
def Zu (l : List D) : Bool := (List.range l.length).any (YT l)
theorem yfL {l : List D} {k : Nat} {x : D} (h : l[k]? = some x) : YT l k = (!nmS x || memB ((l.map D.text).take k) x.text) := by
 unfold YT
 rw [h, ← List.map_take]
theorem Z0 (d : D) (m : Int) : z7 d m = ((!Zu d.kids && d.kind == 3) && decide ((d.kids.length : Int) ≤ m)) := by
 unfold z7 z6
 show (d.kind == 3 && (if decide (m < (d.kids.length : Int)) = true then false else !Zu d.kids)) = _
 by_cases h : m < (d.kids.length : Int)
 ·rw [if_pos (by simpa using h)]
  have : decide ((d.kids.length : Int) ≤ m) = false := decide_eq_false (by omega)
  rw [this]; simp
 ·rw [if_neg (by simpa using h)]
  have : decide ((d.kids.length : Int) ≤ m) = true := decide_eq_true (by omega)
  rw [this, Bool.and_true, Bool.and_comm]
def gBad (l : List D) (j : Nat) : Bool := match l[j]? with
 | some x => zQ x || YT (l.map D.head) j
 | none => false
theorem ypM {l : List D} {k : Nat} {x : D} (h : l[k]? = some x) : gBad l k = (((x.kind != 3 || (x.kids.length : Int) != 3) || !z7 (d1 x.kids) 8) || (!nmS x.head || memB ((l.map fun x => x.head.text).take k) x.head.text)) := by
 unfold gBad
 rw [h]
 show (zQ x || YT (l.map D.head) k) = _
 rw [yfL (x := x.head) (by rw [List.getElem?_map, h]; rfl)]
 unfold zQ
 rw [List.map_map]; rfl
theorem yph (d : D) : zI d = (((!(List.range d.kids.length).any (gBad d.kids) && d.kind == 3) && decide (1 ≤ (d.kids.length : Int))) && decide ((d.kids.length : Int) ≤ 40)) := by
 have hany : (List.range d.kids.length).any (gBad d.kids) = (d.kids.any zQ || (List.range d.kids.length).any (YT (d.kids.map D.head))) := by
  rw [Bool.eq_iff_iff, List.any_eq_true, Bool.or_eq_true, List.any_eq_true, List.any_eq_true]
  constructor
  ·rintro ⟨j, hj, h⟩
   unfold gBad at h
   have hj2 := List.mem_range.1 hj
   rw [List.getElem?_eq_getElem hj2] at h
   simp only [Bool.or_eq_true] at h
   rcases h with h | h
   ·exact .inl ⟨_, List.getElem_mem hj2, h⟩
   ·exact .inr ⟨j, hj, h⟩
  ·rintro (⟨x, hx, h⟩ | ⟨j, hj, h⟩)
   ·obtain ⟨j, hj, rfl⟩ := List.getElem_of_mem hx
    refine ⟨j, List.mem_range.2 hj, ?_⟩
    unfold gBad
    rw [List.getElem?_eq_getElem hj]
    simp only [h, Bool.true_or]
   ·have hj2 := List.mem_range.1 hj
    refine ⟨j, hj, ?_⟩
    unfold gBad
    rw [List.getElem?_eq_getElem hj2]
    simp only [h, Bool.or_true]
 unfold zI z6
 rw [hany, List.length_map]
 generalize d.kids.any zQ = a
 generalize (List.range d.kids.length).any (YT (d.kids.map D.head)) = b
 generalize hn : (d.kids.length : Int) = n
 have hn0 : 0 ≤ n := by omega
 by_cases h0 : n = 0
 ·subst h0; simp
 ·by_cases h40 : 40 < n
  ·have e1 : decide (n ≤ 40) = false := decide_eq_false (by omega)
   have e2 : decide (40 < n) = true := decide_eq_true h40
   rw [e1, e2]; simp
  ·have e1 : decide (n ≤ 40) = true := decide_eq_true (by omega)
   have e2 : decide (40 < n) = false := decide_eq_false h40
   have e3 : decide (1 ≤ n) = true := decide_eq_true (by omega)
   have e4 : (n == 0) = false := by simpa using h0
   rw [e1, e2, e3, e4]
   cases hk : (d.kind == 3) <;> cases a <;> cases b <;> simp_all
theorem fm3 (k : List D) : fmOk 3 k = ((k.length : Int) == 2) := rfl
theorem fm4 (k : List D) : fmOk 4 k = ((k.length : Int) == 4) := rfl
theorem fm5 (k : List D) : fmOk 5 k = ((k.length : Int) == 3 && z7 (d1 k) 8) := rfl
theorem fm6 (k : List D) : fmOk 6 k = ((k.length : Int) == 4 && nmS (d1 k)) := rfl
theorem fm7 (k : List D) : fmOk 7 k = ((k.length : Int) == 3 && zI (d1 k)) := rfl
theorem fm8 (k : List D) : fmOk 8 k = ((k.length : Int) == 3) := rfl
theorem fm9 (k : List D) : fmOk 9 k = (((k.length : Int) == 3 && z7 (d1 k) 8) && ((d1 k).kids.length : Int) == 3) := by
 show (((k.length : Int) == 3 && z7 (d1 k) 3) && ((d1 k).kids.length : Int) == 3) = _
 by_cases h : ((d1 k).kids.length : Int) = 3
 ·rw [Z0, Z0, h]; rfl
 ·have : (((d1 k).kids.length : Int) == 3) = false := by simpa using h
  rw [this]; simp
/-- Where a path leads, step by step. -/
theorem yow {d x : D} {p : List Int} (h : d.sub p = some x) {k : Nat} (hk : k < p.length) {c : D} (hc : d.sub (p.take k) = some c) : ∃ (j : Int) (y : D), p[k]? = some j ∧ 0 ≤ j ∧ j < c.kids.length ∧ c.kids[j.toNat]? = some y ∧ d.sub (p.take (k + 1)) = some y := by
 have hx : p[k]? = some p[k] := by simp [hk]
 have h2 : d.sub (p.take (k + 1) ++ p.drop (k + 1)) = some x := by rw [List.take_append_drop]; exact h
 rw [D.sub_append] at h2
 cases h3 : d.sub (p.take (k + 1)) with
 | none => rw [h3] at h2; cases h2
 | some y =>
  have h4 := h3
  rw [yA hx, D.sub_append, hc] at h4
  simp only [Option.bind_some, D.sub] at h4
  split at h4
  ·rename_i h0
   cases h5 : c.kids[p[k].toNat]? with
   | none => rw [h5] at h4; cases h4
   | some z =>
    rw [h5] at h4
    simp only [Option.bind_some, Option.some.injEq] at h4
    subst h4
    refine ⟨p[k], z, hx, h0, ?_, h5, rfl⟩
    have := (List.getElem?_eq_some_iff.1 h5).1
    omega
  ·cases h4
theorem yiG : ∀ {p : List Int} {d x : D}, d.sub p = some x → x.size + p.length ≤ d.size
 | [], d, x, h => by simp [D.sub] at h; subst h; simp
 | i :: p, d, x, h => by
  simp only [D.sub] at h
  split at h
  ·cases h5 : d.kids[i.toNat]? with
   | none => rw [h5] at h; cases h
   | some z =>
    rw [h5] at h
    have h6 := yiG (p := p) (d := z) (x := x) (by simpa using h)
    have h7 := D.size_kid_lt (List.mem_of_getElem? h5)
    simp only [List.length_cons]; omega
  ·cases h
theorem yfN : ∀ {p : List Int} {d x : D}, d.sub p = some x → formed d = true → formed x = true
 | [], d, x, h, hf => by simp [D.sub] at h; subst h; exact hf
 | i :: p, d, x, h, hf => by
  simp only [D.sub] at h
  split at h
  ·cases h5 : d.kids[i.toNat]? with
   | none => rw [h5] at h; cases h
   | some z =>
    rw [h5] at h
    exact yfN (p := p) (d := z) (x := x) (by simpa using h) (yO hf (List.mem_of_getElem? h5))
  ·cases h
theorem yeH {d : D} (hf : formed d = true) {q : Sub × D} (hq : q ∈ subs d) : formed q.2 = true := yfN (D.sub_subs hq) hf
end Go.Aw

namespace Go.Aw
open Go
/-- The paths of the parts. -/
def prts (d : D) : List (List Int) := (subs d).map fun q => q.1.p
theorem yae (d : D) : (prts d).length = (subs d).length := by unfold prts; rw [List.length_map]
theorem yaa {d : D} {k : Nat} {q : Sub × D} (h : (subs d)[k]? = some q) : (prts d)[k]? = some q.1.p := by unfold prts; rw [List.getElem?_map, h]; rfl
theorem yo5 {d : D} (h : yb d = 4) (hl : d.kids.length = 4) : prts d = [[1], [2], [3]] := by
 unfold prts
 rw [zZ (.inl h)]
 generalize d.kids = l at hl
 match l, hl with
 | [a, b, c, e], _ => rfl
theorem ynN {d : D} (h : yb d = 8) (hl : d.kids.length = 3) : prts d = [[1], [2]] := by
 unfold prts
 rw [zZ (.inr h)]
 generalize d.kids = l at hl
 match l, hl with
 | [a, b, c], _ => rfl
theorem ykn {d : D} (h : yb d = 5 ∨ yb d = 9) : prts d = [[2]] := by unfold prts; rw [y5 h]; rfl
theorem ynU {d : D} (h : yb d = 6) : prts d = [[2], [3]] := by unfold prts; rw [yQ h]; rfl
theorem yok {d : D} (h : yb d = 7) {k : Nat} (hk : k < (d1 d.kids).kids.length) : (prts d)[k]? = some [1, (k : Int), 2] := by
 obtain ⟨x, hx, _⟩ := ym hk
 rw [yaa (Yh h hx)]; rfl
theorem ymD {d : D} (h : yb d = 7) : (prts d)[(d1 d.kids).kids.length]? = some [2] ∧ (prts d).length = (d1 d.kids).kids.length + 1 := by
 obtain ⟨h1, h2⟩ := Yx h
 exact ⟨by rw [yaa h1]; rfl, by rw [yae, h2]⟩
theorem yn8 {d : D} (h : yb d = 10) {k : Nat} (hk : k < d.kids.length) : (prts d)[k]? = some [(k : Int)] := by
 obtain ⟨x, hx, _⟩ := ym hk
 have : (subs d)[k]? = some (sub0 k x) := by rw [YH h, zG, hx]; rfl
 rw [yaa this]; rfl
theorem ymg {d : D} (h : yb d = 10) : (prts d).length = d.kids.length := by rw [yae, YH h, zx]
theorem ymw {d : D} (h : yb d ≠ 4 ∧ yb d ≠ 5 ∧ yb d ≠ 9 ∧ yb d ≠ 6 ∧ yb d ≠ 8 ∧ yb d ≠ 7 ∧ yb d ≠ 10) : prts d = [] := by
 unfold prts
 rw [Yo (by cases shape d <;> omega)]; rfl
theorem yqV {d : D} (h : yb d = 4) : d.kids.length = 4 := by cases shape d <;> omega
theorem yqM {d : D} (h : yb d = 8) : d.kids.length = 3 := by cases shape d <;> omega
theorem yea (d : D) : (subs d).length ≤ d.size := by
 have hb := yaz d
 have : ∀ r : List (Sub × D), r.length ≤ (r.map fun q => q.2.size).sum := by
  intro r
  induction r with
  | nil => simp
  | cons q r ih => have := D.size_pos q.2; simp only [List.length_cons, List.map_cons, List.sum_cons]; omega
 have := this (subs d)
 omega
theorem ynh {d : D} (hf : yb d = 5 ∨ yb d = 9) : z7 (d1 d.kids) 8 = true := by
 cases shape d with
 | fn _ _ hn => exact hn
 | up _ _ hn h3 => rw [Z0] at hn ⊢; rw [h3] at hn ⊢; exact hn
 | none h => omega
 | num h => omega
 | name h => omega
 | quote h => omega
 | iff h => omega
 | lett h => omega
 | recc h => omega
 | seqq h => omega
 | app h => omega
theorem yeU {d : D} {m : Int} (h : z7 d m = true) : Zu d.kids = false ∧ d.kind = 3 := by
 rw [Z0] at h
 simp only [Bool.and_eq_true, Bool.not_eq_true', beq_iff_eq] at h
 exact h.1
theorem ypA {d : D} (h : yb d = 7) {x : D} (hx : x ∈ (d1 d.kids).kids) : z7 (d1 x.kids) 8 = true := by
 have hg : zI (d1 d.kids) = true := by cases shape d <;> first | assumption | omega
 unfold zI at hg
 split at hg
 ·cases hg
 ·split at hg
  ·cases hg
  ·rename_i h2
   have h3 : zQ x = false := by
    cases hb : zQ x with
    | false => rfl
    | true => exact absurd (List.any_eq_true.2 ⟨x, hx, hb⟩) h2
   unfold zQ at h3
   simp only [Bool.or_eq_false_iff, Bool.not_eq_false'] at h3
   exact h3.2
end Go.Aw
