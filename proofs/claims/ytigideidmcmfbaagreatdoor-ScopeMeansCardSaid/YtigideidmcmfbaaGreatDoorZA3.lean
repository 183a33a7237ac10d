/- Part of the proof that the statement holds for every input that its row lets in: an own logic of abstract values over the given model, and laws of data and programs; no program is named in it. -/
import Derived.Test.YtigideidmcmfbaaGreatDoorZA2
import Derived.Lib.ItoaNum
import Derived.KernelRfl
import Derived.Lib.ItoaLen
import Derived.Lib.AtoiAll
import Derived.Lib.ConvBytes
import Derived.Lib.LaidTab
import Derived.Sort.Grow
import Derived.Deep.Draws
import Derived.Laws.MakeOwn
set_option linter.unusedSimpArgs false
set_option linter.unusedVariables false
namespace Go.Aw
open Go
theorem yT {d x : D} (h : formed d = true) (hx : x ∈ d.kids) : formed x = true := by
 rw [zc] at h
 split at h
 ·simp only [Bool.and_eq_true, beq_iff_eq] at h
  have : d.kids = [] := by cases hk : d.kids with
   | nil => rfl
   | cons a r => rw [hk] at h; simp at h; omega
  rw [this] at hx; simp at hx
 ·split at h
  ·simp only [Bool.and_eq_true, beq_iff_eq] at h
   have : d.kids = [] := by cases hk : d.kids with
    | nil => rfl
    | cons a r => rw [hk] at h; simp at h; omega
   rw [this] at hx; simp at hx
  ·split at h
   ·simp only [Bool.and_eq_true, Bool.not_eq_true', List.any_eq_false] at h
    simpa using h.2 x hx
   ·cases h
theorem yjC {d : D} (h : formed d = true) : d.kind = 1 ∨ d.kind = 2 ∨ d.kind = 3 := by
 rw [zc] at h
 split at h
 ·rename_i h1; exact .inl (by simpa using h1)
 ·split at h
  ·rename_i h1; exact .inr (.inl (by simpa using h1))
  ·split at h
   ·rename_i h1; exact .inr (.inr (by simpa using h1))
   ·cases h

theorem ydj {p : D} (h : dcheck p = 0) : formed p = true := by
 unfold dcheck at h
 split at h
 ·cases h
 ·rename_i h1; simpa using h1

end Go.Aw

namespace Go.Aw
open Go
@[go_sem high] theorem ysY (x y : D) : Y0 4 0 [(0, AV.pv (enc x)), (1, AV.pv (enc y))] = some [enc x, enc y] := by simp [Y0, toPV, zG, ygH, zQ]
@[go_sem high] theorem ys4 (x y z : D) : Y0 4 0 [(0, AV.pv (enc x)), (1, AV.pv (enc y)), (2, AV.pv (enc z))] = some [enc x, enc y, enc z] := by simp [Y0, toPV, zG, ygH, zQ]
end Go.Aw

namespace Go.Aw
open Go
def Zu (f : D → Nat) (l : List D) (k : Nat) : Nat := ((l.take k).map f).sum
theorem yc9 {f : D → Nat} {l : List D} : Zu f l 0 = 0 := by simp [Zu]
theorem yk6 {f : D → Nat} {l : List D} {k : Nat} {x : D} (h : l[k]? = some x) : Zu f l (k + 1) = Zu f l k + f x := by unfold Zu; rw [yI h]; simp
theorem yg4 {f : D → Nat} {l : List D} : Zu f l l.length = (l.map f).sum := by unfold Zu; rw [List.take_length]
theorem ynu {f : D → Nat} : ∀ {l : List D}, (∀ x, x ∈ l → f x ≤ x.size) → (l.map f).sum ≤ D.sizes l
 | [], _ => by simp [D.sizes]
 | x :: l, h => by
  have h1 := h x (by simp)
  have h2 := ynu (l := l) (fun y hy => h y (by simp [hy]))
  simp only [List.map_cons, List.sum_cons, D.sizes]; omega
theorem yoU {f : D → Nat} {l : List D} {k : Nat} (h : ∀ x, x ∈ l → f x ≤ x.size) : Zu f l k ≤ D.sizes l := by
 have h1 := ynu (l := l.take k) (fun x hx => h x (List.mem_of_mem_take hx))
 have h2 := ZX (l.take k) (l.drop k)
 rw [List.take_append_drop] at h2
 unfold Zu; omega
end Go.Aw

namespace Go.Aw
open Go
end Go.Aw

namespace Go.Aw
open Go
theorem ysX (lt : Int → Bool) : zw lt es = false := rfl
theorem ycH {d : D} (h : formed d = true) (hk : d.kind = 2) : d.num = 0 ∧ d.kids = [] ∧ zw zE d.text = true := by
 rw [zc, if_neg (by rw [hk]; decide), if_pos (by rw [hk]; rfl)] at h
 simp only [Bool.and_eq_true, beq_iff_eq] at h
 exact ⟨h.1.1, List.eq_nil_of_length_eq_zero (by omega), h.2⟩
theorem D.ext' {a b : D} (h1 : a.kind = b.kind) (h2 : a.num = b.num) (h3 : a.text = b.text) (h4 : a.kids = b.kids) : a = b := by
 cases a; cases b; simp only [D.kind, D.num, D.text, D.kids] at *; subst h1 h2 h3 h4; rfl
end Go.Aw

namespace Go.Aw
open Go
end Go.Aw

namespace Go.Aw
open Go
theorem ylx : (List.range 256).all (fun c => letter (c : Int) == zE (c : Int)) = true := by kernel_rfl
theorem yj1 {c : Nat} (h : c < 256) : letter (c : Int) = zE (c : Int) := by
 have := List.all_eq_true.1 ylx c (List.mem_range.2 h)
 simpa using this
theorem yq6 (s : ByteArray) (i : Nat) : ∃ c : Nat, c < 256 ∧ bt s i = (c : Int) := by
 refine ⟨((s.data[((i : Int)).toNat]?).getD 0).toNat, UInt8.toNat_lt _, rfl⟩
theorem ZV (s : ByteArray) : zw letter s = zw zE s := by
 have h : (fun i => letter (bt s i)) = fun i => zE (bt s i) := by
  funext i
  obtain ⟨c, hc, e⟩ := yq6 s i
  rw [e, yj1 hc]
 unfold zw
 rw [h]

def Yu : List ByteArray := [⟨#[113, 117, 111, 116, 101]⟩, ⟨#[105, 102]⟩, ⟨#[102, 110]⟩, ⟨#[108, 101, 116]⟩, ⟨#[114, 101, 99]⟩, ⟨#[115, 101, 113]⟩, ⟨#[117, 112]⟩]
def resI (s : ByteArray) : Int := yaA (fun w => decide (w = s)) Yu
def reserved (s : ByteArray) : Int := if resI s < 0 then 0 else 3 + resI s
def ybn (s : ByteArray) : Bool := zw letter s && reserved s == 0
theorem yiY {α : Type} {p : α → Bool} {l : List α} : (0 ≤ yaA p l) ↔ l.any p = true := by
 rw [← yhs]; simp
theorem yhJ (s : ByteArray) : (reserved s == 0) = !(Yu.any fun w => decide (w = s)) := by
 unfold reserved resI
 have h := yiY (p := fun w => decide (w = s)) (l := Yu)
 cases hb : Yu.any fun w => decide (w = s) with
 | true =>
  have h0 := h.2 hb
  rw [if_neg (by omega)]
  simp; omega
 | false =>
  have h0 : ¬ 0 ≤ yaA (fun w => decide (w = s)) Yu := fun h0 => by rw [h.1 h0] at hb; cases hb
  rw [if_pos (by omega)]; rfl
def Yd (n : Int) : ByteArray := ⟨(Lib.itoa n).toArray⟩

end Go.Aw

namespace Go.Aw
open Go
theorem yg8 : ∀ l : List D, D.sizes l = (l.map D.size).sum
 | [] => rfl
 | d :: l => by simp [D.sizes, yg8 l]
theorem yji (d : D) : d.size = 1 + Zu D.size d.kids d.kids.length := by rw [yg4, D.size_kids, yg8]
theorem yf4 : ∀ (l : List D) (x : D), D.deeps (l ++ [x]) = max (D.deeps l) x.deep
 | [], x => by simp [D.deeps]
 | d :: l, x => by simp only [List.cons_append, D.deeps, yf4 l x]; omega
theorem ynd (d : D) : d.deep = 1 + D.deeps d.kids := by cases d; rfl
theorem ylq {l : List D} {k : Nat} {x : D} (h : l[k]? = some x) : (if D.deeps (l.take k) < x.deep then ((x.deep : Nat) : Int) else ((D.deeps (l.take k) : Nat) : Int)) = ((D.deeps (l.take (k + 1)) : Nat) : Int) := by
 rw [yI h, yf4]
 split <;> omega
end Go.Aw
namespace Go.Aw
open Go
end Go.Aw
namespace Go.Aw
open Go
end Go.Aw

namespace Go.Aw
open Go
def dval (l : List UInt8) : Nat := l.foldl (fun a c => a * 10 + (c.toNat - 48)) 0
theorem ygW {n : Nat} (h : n < 10) : (UInt8.ofNat (48 + n)).toNat = 48 + n := by
 rw [UInt8.toNat_ofNat']; omega
theorem yir : ∀ u : Nat, dval (Lib.decDigits u) = u := by
 intro u
 induction u using Nat.strongRecOn with
 | _ u ih =>
  rw [Lib.decDigits]
  split
  ·rename_i h
   simp only [dval, List.foldl_cons, List.foldl_nil, ygW h]; omega
  ·rename_i h
   have := ih (u / 10) (by omega)
   simp only [dval] at this ⊢
   rw [List.foldl_append, this]
   simp only [List.foldl_cons, List.foldl_nil, ygW (Nat.mod_lt u (by omega : 10 > 0))]
   omega
theorem yip {n : Int} (h : 0 ≤ n) : Lib.itoa n = Lib.decDigits n.toNat := by unfold Lib.itoa; rw [if_neg (by omega)]
theorem ymU {n m : Int} (hn : 0 ≤ n) (hm : 0 ≤ m) (h : Yd n = Yd m) : n = m := by
 unfold Yd at h
 have h1 : Lib.itoa n = Lib.itoa m := by
  have := congrArg (fun b : ByteArray => b.data.toList) h
  simpa using this
 rw [yip hn, yip hm] at h1
 have h2 := congrArg dval h1
 rw [yir, yir] at h2
 omega
end Go.Aw
namespace Go.Aw
open Go
end Go.Aw

namespace Go.Aw
open Go
def sFn : ByteArray := ⟨#[102, 110]⟩
end Go.Aw
namespace Go.Aw
open Go
end Go.Aw
namespace Go.Aw
open Go
theorem yuh {l : List D} (h : l.length = 4) : (l.drop 1).take 1 = [d1 l] := by
 match l, h with
 | [a, b, c, e], _ => rfl
theorem yuS {l : List D} (h : l.length = 4) : (l.drop 1).take 2 = [d1 l, d2 l] := by
 match l, h with
 | [a, b, c, e], _ => rfl
end Go.Aw

namespace Go.Aw
open Go
theorem ygf {α : Type} (x : ByteArray) : ∀ l : List (ByteArray × α), kfind (.str x) (l.map fun p => .str p.1) = l.findIdx? fun p => decide (p.1 = x)
 | [] => rfl
 | p :: l => by
  have hk : (PV.str x).keq (.str p.1) = decide (p.1 = x) := by simp [PV.keq, zY, eq_comm]
  simp only [List.map_cons, kfind, List.findIdx?_cons, hk, ygf x l]
end Go.Aw

namespace Go.Aw
open Go
end Go.Aw

namespace Go.Aw
open Go
end Go.Aw

namespace Go.Aw
open Go
end Go.Aw

namespace Go.Aw
open Go
end Go.Aw
namespace Go.Aw
open Go
end Go.Aw

namespace Go.Aw
open Go
end Go.Aw

namespace Go.Aw
open Go
end Go.Aw

namespace Go.Aw
open Go
end Go.Aw
namespace Go.Aw
open Go
end Go.Aw

namespace Go.Aw
open Go
end Go.Aw
namespace Go.Aw
open Go
end Go.Aw

namespace Go.Aw
open Go
end Go.Aw

namespace Go.Aw
open Go
end Go.Aw

namespace Go.Aw
open Go
end Go.Aw

namespace Go.Aw
open Go
end Go.Aw

namespace Go.Aw
open Go
def sRec : ByteArray := ⟨#[114, 101, 99]⟩
theorem ZW {n : Int} (h0 : -9223372036854775808 ≤ n) (h1 : n ≤ 9223372036854775807) : (Yd n).size ≤ 21 := by
 have := Lib.itoa_length_le n h0 h1
 show ((Lib.itoa n).toArray).size ≤ 21
 simpa using this

@[go_sem] theorem ysj {l : List Tok} {t u : Tok} {f : Tok → Tok} : (l ++ [t, u]).modify (l.length + 1) f = l ++ [t, f u] := by
 induction l with
 | nil => rfl
 | cons a l ih => simp [ih]
@[go_sem] theorem ysT {α : Type} {l : List α} {a b : α} : (l ++ [a, b]).take (l.length + 2) = l ++ [a, b] := List.take_of_length_le (by simp)

end Go.Aw
namespace Go.Aw
open Go
end Go.Aw

namespace Go.Aw
open Go
def memB (l : List ByteArray) (s : ByteArray) : Bool := l.any fun x => decide (s = x)
end Go.Aw

namespace Go.Aw
open Go Go.RowKit
end Go.Aw

namespace Go.Aw
open Go
def mapI {α β : Type} (f : Nat → α → β) (l : List α) : List β := l.zipIdx.map fun p => f p.2 p.1
theorem zC {α β : Type} (f : Nat → α → β) (l : List α) (i : Nat) : (mapI f l)[i]? = l[i]?.map (f i) := by
 unfold mapI
 rw [List.getElem?_map, List.getElem?_zipIdx]
 cases l[i]? <;> simp
theorem zu {α β : Type} (f : Nat → α → β) (l : List α) : (mapI f l).length = l.length := by simp [mapI]
theorem yl5 {α β : Type} {f : Nat → α → β} {l : List α} {k : Nat} {x : α} (h : l[k]? = some x) : (mapI f l).take (k + 1) = (mapI f l).take k ++ [f k x] := yI (by rw [zC, h]; rfl)
theorem YL {α β : Type} {f : Nat → α → β} {l : List α} {y : β} (h : y ∈ mapI f l) : ∃ i x, l[i]? = some x ∧ y = f i x := by
 obtain ⟨i, hi, rfl⟩ := List.getElem_of_mem h
 have h2 : (mapI f l)[i]? = some (mapI f l)[i] := List.getElem?_eq_getElem hi
 rw [zC] at h2
 obtain ⟨x, h3, h4⟩ := Option.map_eq_some_iff.1 h2
 exact ⟨i, x, h3, h4.symm⟩

end Go.Aw

namespace Go.Aw
open Go
def tK (S : List ByteArray) : List PV := S.map .str
def tV (S : List ByteArray) : List PV := S.map fun _ => .bool true
def addS (S : List ByteArray) (x : ByteArray) : List ByteArray := if memB S x = true then S else S ++ [x]
def setS (σ : Store) (o : Nat) (S : List ByteArray) : Store := { σ with objs := σ.objs.set o (.map (tK S) (tV S)) }
theorem ye2 (x : ByteArray) : ∀ S : List ByteArray, kfind (.str x) (tK S) = S.findIdx? fun y => decide (x = y)
 | [] => rfl
 | y :: S => by
  have hk : (PV.str x).keq (.str y) = decide (x = y) := by simp [PV.keq, zY]
  have ih := ye2 x S
  simp only [tK] at ih
  simp only [tK, List.map_cons, kfind, List.findIdx?_cons, hk, ih]
theorem ykx (S : List ByteArray) : (tK S).all (KS.fits (.one .str)) = true := by
 simp only [tK, List.all_map, List.all_eq_true]
 intro p _; rfl
section
variable {ty : TyT} {s : St} {t kt et : TypeId} {ti te tk : TyI} {o : Nat} {S : List ByteArray}
theorem ya9 (h : ty t = some ti) (hk : ti.kind = .map kt et) (h1 : ty et = some te) (h2 : ty kt = some tk) (h3 : tk.ks = some (.one .str)) (h4 : te.kind = .bool) (h5 : te.zero = [.bool false]) (ho : s.σ.objs[o]? = some (.map (tK S) (tV S))) (x : ByteArray) :
  Yx ty s t (.map o) (.pv (.str x)) false = some (.pv (.bool (memB S x))) := by
 have hko : Z5 ty kt (.str x) (tK S) = true := by
  simp only [Z5, h2, h3, ykx, Bool.and_true]; rfl
 simp only [Yx, h, hk, h1, yay, ho, toPV, zG, Option.map_some, PV.nrm, hko, ye2]
 unfold memB
 cases hj : S.findIdx? fun y => decide (x = y) with
 | none =>
  have : (S.any fun y => decide (x = y)) = false := by
   rw [List.findIdx?_eq_none_iff] at hj
   rw [List.any_eq_false]
   intro p hp; simp [hj p hp]
  simp only [this]
  simp [okAV, ycf, h4, h5, TyK.agg]
 | some j =>
  rw [List.findIdx?_eq_some_iff_getElem] at hj
  obtain ⟨h6, h7, _⟩ := hj
  have : (S.any fun y => decide (x = y)) = true := List.any_eq_true.2 ⟨_, List.getElem_mem h6, h7⟩
  simp only [this]
  simp [okAV, tV, h6]
theorem ynz (x : ByteArray) : kput (.str x) (.bool true) (tK S) (tV S) = (tK (addS S x), tV (addS S x)) := by
 unfold kput
 rw [ye2]
 cases hj : S.findIdx? fun y => decide (x = y) with
 | none =>
  have : memB S x = false := by
   rw [List.findIdx?_eq_none_iff] at hj
   unfold memB
   rw [List.any_eq_false]
   intro p hp; simp [hj p hp]
  unfold addS
  rw [this]
  simp [tK, tV]
 | some j =>
  rw [List.findIdx?_eq_some_iff_getElem] at hj
  obtain ⟨h6, h7, _⟩ := hj
  have : memB S x = true := List.any_eq_true.2 ⟨_, List.getElem_mem h6, h7⟩
  unfold addS
  rw [this]
  simp only [if_true]
  congr 1
  apply List.ext_getElem?
  intro i
  rw [List.getElem?_set]
  unfold tV
  split
  ·subst_vars
   split
   ·rename_i hlt; simp at hlt; simp [hlt]
   ·rename_i hlt; rw [List.getElem?_eq_none (by simpa using hlt)]
  ·rfl
theorem yck (h : ty t = some ti) (hk : ti.kind = .map kt et) (h2 : ty kt = some tk) (h3 : tk.ks = some (.one .str)) (ho : s.σ.objs[o]? = some (.map (tK S) (tV S))) (x : ByteArray) :
  yec ty s t (.map o) (.pv (.str x)) (.pv (.bool true)) = some (setS s.σ o (addS S x)) := by
 have hko : Z5 ty kt (.str x) (tK S) = true := by
  simp only [Z5, h2, h3, ykx, Bool.and_true]; rfl
 simp only [yec, h, hk, ho, toPV, zG, Option.map_some, PV.nrm, hko, ynz]
 rfl
end
section
variable {σ : Store} {o : Nat} {S R : List ByteArray}
theorem ybF (h : σ.objs[o]? = some (.map (tK S) (tV S))) : setS σ o S = σ := by
 unfold setS
 have : σ.objs.set o (.map (tK S) (tV S)) = σ.objs := by
  apply List.ext_getElem?
  intro i
  rw [List.getElem?_set]
  split
  ·subst_vars
   split
   ·exact h.symm
   ·rename_i hlt; rw [List.getElem?_eq_none (by simpa using hlt)]
  ·rfl
 rw [this]
theorem yfj (h : o < σ.objs.length) : (setS σ o S).objs[o]? = some (.map (tK S) (tV S)) := by simp [setS, h]
theorem zf : setS (setS σ o S) o R = setS σ o R := by simp [setS]
theorem zm : (setS σ o S).gl = σ.gl := rfl
theorem ygJ : (setS σ o S).objs.length = σ.objs.length := by simp [setS]
theorem yj9 : (setS σ o S).toks.length = σ.toks.length := rfl
theorem yn6 : (setS σ o S).cut σ.objs.length σ.toks.length = setS σ o S := by simp [setS, Store.cut, List.take_of_length_le]
theorem yok {ob : AObj} {no nt nl : Nat} (h : ob ∈ (setS σ o S).objs) : ob ∈ σ.objs ∨ ob.clo no nt nl = true := by
 rcases List.mem_or_eq_of_mem_set h with h | h
 ·exact .inl h
 ·subst h; exact .inr rfl
end
theorem yof {S : List ByteArray} {x y : ByteArray} : memB (addS S x) y = (memB S y || decide (y = x)) := by
 unfold addS
 split
 ·rename_i h
  by_cases e : y = x
  ·subst e; simp [h]
  ·simp [e]
 ·simp [memB, List.any_append]
theorem ynk {L : List ByteArray} : ∀ {S : List ByteArray} {y : ByteArray}, memB (L.foldl addS S) y = (memB S y || memB L y) := by
 induction L with
 | nil => intro S y; simp [memB]
 | cons x L ih =>
  intro S y
  rw [List.foldl_cons, ih, yof]
  simp only [memB, List.any_cons, Bool.or_assoc]
theorem Z6 {P : Program} {f : FuncId} {args : List AV} {σ : Store} {R : AV → Store → Prop} (h : ∀ τ, τ = σ → ACalls P f args τ R) : ACalls P f args σ R := h σ rfl
@[go_sem] theorem ysi {l : List Tok} {t u v : Tok} {f : Tok → Tok} : (l ++ [t, u, v]).modify (l.length + 2) f = l ++ [t, u, f v] := by
 induction l with
 | nil => rfl
 | cons a l ih => simp [ih]
@[go_sem] theorem ysc {l : List Tok} {t u : Tok} {f : Tok → Tok} : (l ++ [t, u]).modify l.length f = l ++ [f t, u] := by
 induction l with
 | nil => rfl
 | cons a l ih => simp [ih]
@[go_sem] theorem ysJ {α : Type} {l : List α} {a b c : α} : (l ++ [a, b, c]).take (l.length + 3) = l ++ [a, b, c] := List.take_of_length_le (by simp)
theorem yax {α : Type} {l : List α} {n i : Nat} {x : α} (h : n ≤ i) : (l.set i x).take n = l.take n := by
 apply List.ext_getElem?
 intro j
 rw [List.getElem?_take, List.getElem?_take]
 split
 ·rw [List.getElem?_set, if_neg (by omega)]
 ·rfl
theorem yii {l : List AObj} {o : Nat} {x : AObj} (h : l[o]? = some x) : l.set o x = l := by
 apply List.ext_getElem?
 intro i
 rw [List.getElem?_set]
 split
 ·subst_vars
  split
  ·exact h.symm
  ·rename_i hlt; rw [List.getElem?_eq_none (by simpa using hlt)]
 ·rfl

theorem ycU {α : Type} {l : List α} {a b c d : α} : (l ++ [a, b, c, d])[l.length + 3]? = some d := by
 rw [List.getElem?_append_right (by omega), Nat.add_sub_cancel_left]; rfl

theorem Zn {l : List AObj} {i : Nat} {x : AObj} : (l.set i x)[i]? = l[i]?.map fun _ => x := by
 rw [List.getElem?_set, if_pos rfl]
 split
 ·rename_i h; rw [List.getElem?_eq_getElem h]; rfl
 ·rename_i h; rw [List.getElem?_eq_none (by omega)]; rfl

theorem yi9 {l : List AObj} {a ob : AObj} {no nt nl : Nat} (ha : a.clo no nt nl = true) (h : ob ∈ l ++ [a]) : ob ∈ l ∨ ob.clo no nt nl = true := by
 rcases List.mem_append.1 h with h | h
 ·exact .inl h
 ·simp only [List.mem_singleton] at h
  subst h; exact .inr ha
end Go.Aw

namespace Go.Aw
open Go
def sSeq : ByteArray := ⟨#[115, 101, 113]⟩
def sUp : ByteArray := ⟨#[117, 112]⟩
def ybt : List (ByteArray × Int) := [(Z3, 3), (sIf, 4), (sFn, 5), (sLet, 6), (sRec, 7), (sSeq, 8), (sUp, 9)]
def zz (s : ByteArray) : Int := ((ybt.find? fun p => decide (p.1 = s)).map (·.2)).getD 0
theorem yeU (s : ByteArray) : (s = Z3 ∧ zz s = 3) ∨ (s = sIf ∧ zz s = 4) ∨ (s = sFn ∧ zz s = 5) ∨ (s = sLet ∧ zz s = 6) ∨ (s = sRec ∧ zz s = 7) ∨ (s = sSeq ∧ zz s = 8) ∨ (s = sUp ∧ zz s = 9) ∨ ((ybt.find? fun p => decide (p.1 = s)) = none ∧ zz s = 0) := by
 unfold zz
 simp only [ybt, List.find?_cons, List.find?_nil]
 by_cases h1 : Z3 = s
 ·subst h1; simp
 by_cases h2 : sIf = s
 ·subst h2; simp [show ¬ Z3 = sIf by decide]
 by_cases h3 : sFn = s
 ·subst h3; simp [show ¬ Z3 = sFn by decide, show ¬ sIf = sFn by decide]
 by_cases h4 : sLet = s
 ·subst h4; simp [show ¬ Z3 = sLet by decide, show ¬ sIf = sLet by decide, show ¬ sFn = sLet by decide]
 by_cases h5 : sRec = s
 ·subst h5; simp [show ¬ Z3 = sRec by decide, show ¬ sIf = sRec by decide, show ¬ sFn = sRec by decide, show ¬ sLet = sRec by decide]
 by_cases h6 : sSeq = s
 ·subst h6; simp [show ¬ Z3 = sSeq by decide, show ¬ sIf = sSeq by decide, show ¬ sFn = sSeq by decide, show ¬ sLet = sSeq by decide, show ¬ sRec = sSeq by decide]
 by_cases h7 : sUp = s
 ·subst h7; simp [show ¬ Z3 = sUp by decide, show ¬ sIf = sUp by decide, show ¬ sFn = sUp by decide, show ¬ sLet = sUp by decide, show ¬ sRec = sUp by decide, show ¬ sSeq = sUp by decide]
 simp [h1, h2, h3, h4, h5, h6, h7]
theorem ybT (s : ByteArray) : 0 ≤ zz s ∧ zz s ≤ 9 ∧ (zz s = 0 ∨ 3 ≤ zz s) := by
 rcases yeU s with ⟨_, h⟩ | ⟨_, h⟩ | ⟨_, h⟩ | ⟨_, h⟩ | ⟨_, h⟩ | ⟨_, h⟩ | ⟨_, h⟩ | ⟨_, h⟩ <;> rw [h] <;> omega
structure WdO where
 l : List (ByteArray × Int)
 find : ∀ x : ByteArray, ((l.find? fun p => decide (p.1 = x)).map (·.2)).getD 0 = zz x
def wdK (W : WdO) : List PV := W.l.map fun p => .str p.1
def wdV (W : WdO) : List PV := W.l.map fun p => .int .i64 p.2
theorem yqO (W : WdO) : (wdK W).all (KS.fits (.one .str)) = true := by
 unfold wdK
 rw [List.all_eq_true]
 intro p hp
 obtain ⟨q, _, rfl⟩ := List.mem_map.1 hp
 rfl
theorem ygs {W : WdO} {ty : TyT} {s : St} {t : TypeId} {x : ByteArray} {ti te tk : TyI} {kt et : TypeId} (h : ty t = some ti) (hk : ti.kind = .map kt et) (h1 : ty et = some te) (h2 : ty kt = some tk) (h3 : tk.ks = some (.one .str)) (h4 : te.kind.agg = false) (h5 : te.zero = [.int .i64 0]) :
  Yx ty s t (.pv (.map (wdK W) (wdV W))) (.pv (.str x)) false = some (.pv (.int .i64 (zz x))) := by
 have hko : Z5 ty kt (.str x) (wdK W) = true := by
  have hf := yqO W
  simp only [Z5, h2, h3, hf, Bool.and_true]; rfl
 have hfx := W.find x
 simp only [Yx, h, hk, h1, yay, toPV, zG, Option.map_some, PV.nrm, hko]
 have hkf : kfind (.str x) (wdK W) = W.l.findIdx? fun p => decide (p.1 = x) := ygf x W.l
 rw [hkf]
 cases hj : W.l.findIdx? fun p => decide (p.1 = x) with
 | none =>
  have : W.l.find? (fun p => decide (p.1 = x)) = none := by
   rw [List.findIdx?_eq_none_iff] at hj
   rw [List.find?_eq_none]
   intro p hp; simpa using hj p hp
  rw [this] at hfx
  rw [← hfx]
  simp [okAV, ycf, h4, h5]
 | some j =>
  rw [List.findIdx?_eq_some_iff_getElem] at hj
  obtain ⟨hlt, h6, h7⟩ := hj
  have : W.l.find? (fun p => decide (p.1 = x)) = some W.l[j] := by
   rw [List.find?_eq_some_iff_getElem]
   exact ⟨h6, j, hlt, rfl, fun i hi => by simpa using h7 i hi⟩
  rw [this] at hfx
  rw [← hfx]
  have hv : (wdV W)[j]? = some (.int .i64 W.l[j].2) := by unfold wdV; rw [List.getElem?_map, List.getElem?_eq_getElem hlt]; rfl
  simp [hv, okAV]
def nmS (d : D) : Bool := d.kind == 2 && zz d.text == 0
def YY (l : List D) (j : Nat) : Bool := match l[j]? with
 | some x => !nmS x || memB ((l.take j).map D.text) x.text
 | none => false
def Ye (l : List D) (m : Int) : Bool := if decide (m < (l.length : Int)) = true then false else !((List.range l.length).any (YY l))
def Yf (d : D) (m : Int) : Bool := d.kind == 3 && Ye d.kids m
def zU (k : D) : Bool := (k.kind != 3 || (k.kids.length : Int) != 3) || !Yf (d1 k.kids) 8
def zP (d : D) : Bool := if ((d.kind != 3 || (d.kids.length : Int) == 0) || decide (40 < (d.kids.length : Int))) = true then false else if d.kids.any zU = true then false else Ye (d.kids.map D.head) 40
def fmOk (f : Int) (k : List D) : Bool :=
 if (f == 3) = true then (k.length : Int) == 2 else if (f == 4) = true then (k.length : Int) == 4 else if (f == 5) = true then (k.length : Int) == 3 && Yf (d1 k) 8 else
 if (f == 9) = true then ((k.length : Int) == 3 && Yf (d1 k) 3) && ((d1 k).kids.length : Int) == 3 else if (f == 6) = true then (k.length : Int) == 4 && nmS (d1 k) else
 if (f == 8) = true then (k.length : Int) == 3 else if (f == 7) = true then (k.length : Int) == 3 && zP (d1 k) else false
def Yz (d : D) : Int := if (d.head.kind == 2) = true then zz d.head.text else 0
def yb (d : D) : Int :=
 if (d.kind == 1) = true then 1 else if (d.kind == 2) = true then (if decide (0 < zz d.text) = true then 0 else 2) else if ((d.kids.length : Int) == 0) = true then 0 else
 if (Yz d == 0) = true then (if decide ((d.kids.length : Int) ≤ 9) = true then 10 else 0) else if fmOk (Yz d) d.kids = true then Yz d else 0
structure Sub where
 p : List Int
 ns : List (ByteArray × Int)
def numb (l : List ByteArray) (n : Int) : List (ByteArray × Int) := mapI (fun i x => (x, n + (i : Int))) l
def parS (x : D) : List ByteArray := (d1 x.kids).kids.map D.text
def yR (l : List D) (i : Nat) : Int := (l.length : Int) + (((l.take i).map fun x => ((d1 x.kids).kids.length : Int)).sum)
def ownS (d : D) : List ByteArray :=
 if (yb d == 5) = true then (d1 d.kids).kids.map D.text else if (yb d == 9) = true then (d1 d.kids).kids.map D.text else if (yb d == 6) = true then [(d1 d.kids).text] else
 if (yb d == 7) = true then (d1 d.kids).kids.map fun x => x.head.text else []
def subs (d : D) : List (Sub × D) :=
 if (yb d == 4) = true then mapI (fun i x => (⟨[(i : Int) + 1], []⟩, x)) (d.kids.drop 1) else if (yb d == 8) = true then mapI (fun i x => (⟨[(i : Int) + 1], []⟩, x)) (d.kids.drop 1) else
 if (yb d == 5) = true then [(⟨[2], (numb (ownS d) 0).reverse⟩, d2 d.kids)] else if (yb d == 9) = true then [(⟨[2], (numb (ownS d) 0).reverse⟩, d2 d.kids)] else
 if (yb d == 6) = true then [(⟨[2], []⟩, d2 d.kids), (⟨[3], (numb (ownS d) 0).reverse⟩, d.kids.getD 3 dnone)] else
 if (yb d == 7) = true then mapI (fun i x => (⟨[1, (i : Int), 2], (numb (parS x) (yR (d1 d.kids).kids i)).reverse ++ (numb (ownS d) 0).reverse⟩, d2 x.kids)) (d1 d.kids).kids ++ [(⟨[2], (numb (ownS d) 0).reverse⟩, d2 d.kids)] else
 if (yb d == 10) = true then mapI (fun i x => (⟨[(i : Int)], []⟩, x)) d.kids else []
theorem Yw {l : List D} {n : Nat} (h : n < l.length) : l.getD n dnone ∈ l := by
 rw [List.getD_eq_getElem?_getD, List.getElem?_eq_getElem h]; simp
theorem yqQ {f : Int} {k : List D} (h : fmOk f k = true) : (f = 3 ∧ k.length = 2) ∨ (f = 4 ∧ k.length = 4) ∨ (f = 5 ∧ k.length = 3 ∧ Yf (d1 k) 8 = true) ∨ (f = 9 ∧ k.length = 3 ∧ Yf (d1 k) 3 = true ∧ (d1 k).kids.length = 3) ∨ (f = 6 ∧ k.length = 4 ∧ nmS (d1 k) = true) ∨ (f = 8 ∧ k.length = 3) ∨ (f = 7 ∧ k.length = 3 ∧ zP (d1 k) = true) := by
 unfold fmOk at h
 split at h
 ·rename_i e; simp only [beq_iff_eq] at e h; exact .inl ⟨e, by omega⟩
 ·split at h
  ·rename_i e; simp only [beq_iff_eq] at e h; exact .inr (.inl ⟨e, by omega⟩)
  ·split at h
   ·rename_i e; simp only [beq_iff_eq, Bool.and_eq_true] at e h; exact .inr (.inr (.inl ⟨e, by omega, h.2⟩))
   ·split at h
    ·rename_i e; simp only [beq_iff_eq, Bool.and_eq_true] at e h; exact .inr (.inr (.inr (.inl ⟨e, by omega, h.1.2, by omega⟩)))
    ·split at h
     ·rename_i e; simp only [beq_iff_eq, Bool.and_eq_true] at e h; exact .inr (.inr (.inr (.inr (.inl ⟨e, by omega, h.2⟩))))
     ·split at h
      ·rename_i e; simp only [beq_iff_eq] at e h; exact .inr (.inr (.inr (.inr (.inr (.inl ⟨e, by omega⟩)))))
      ·split at h
       ·rename_i e; simp only [beq_iff_eq, Bool.and_eq_true] at e h; exact .inr (.inr (.inr (.inr (.inr (.inr ⟨e, by omega, h.2⟩)))))
       ·cases h
inductive Shape (d : D) : Prop where
 | none (h : yb d = 0)
 | num (h : yb d = 1) (hk : d.kind = 1)
 | name (h : yb d = 2) (hk : d.kind = 2) (hw : zz d.text = 0)
 | quote (h : yb d = 3) (hl : d.kids.length = 2)
 | iff (h : yb d = 4) (hl : d.kids.length = 4)
 | fn (h : yb d = 5) (hl : d.kids.length = 3) (hn : Yf (d1 d.kids) 8 = true)
 | lett (h : yb d = 6) (hl : d.kids.length = 4) (hn : nmS (d1 d.kids) = true)
 | recc (h : yb d = 7) (hl : d.kids.length = 3) (hn : zP (d1 d.kids) = true)
 | seqq (h : yb d = 8) (hl : d.kids.length = 3)
 | up (h : yb d = 9) (hl : d.kids.length = 3) (hn : Yf (d1 d.kids) 3 = true) (h3 : (d1 d.kids).kids.length = 3)
 | app (h : yb d = 10) (hl : d.kids.length ≤ 9) (h0 : 0 < d.kids.length) (hw : Yz d = 0)
theorem shape (d : D) : Shape d := by
 by_cases h1 : d.kind = 1
 ·exact .num (by unfold yb; rw [h1]; rfl) h1
 have e1 : (d.kind == 1) = false := by simpa using h1
 by_cases h2 : d.kind = 2
 ·have e2 : (d.kind == 2) = true := by simpa using h2
  by_cases hw : 0 < zz d.text
  ·exact .none (by unfold yb; rw [e1, if_neg (by decide), if_pos e2, if_pos (by simpa using hw)])
  ·exact .name (by unfold yb; rw [e1, if_neg (by decide), if_pos e2, if_neg (by simpa using hw)]) h2 (by have := ybT d.text; omega)
 have e2 : (d.kind == 2) = false := by simpa using h2
 by_cases h0 : d.kids.length = 0
 ·exact .none (by unfold yb; rw [e1, if_neg (by decide), e2, if_neg (by decide), if_pos (by simp [h0])])
 have e0 : ((d.kids.length : Int) == 0) = false := by simpa using h0
 have hs : yb d = if (Yz d == 0) = true then (if decide ((d.kids.length : Int) ≤ 9) = true then 10 else 0) else if fmOk (Yz d) d.kids = true then Yz d else 0 := by
  unfold yb; rw [e1, if_neg (by decide), e2, if_neg (by decide), e0, if_neg (by decide)]
 by_cases hh : Yz d = 0
 ·rw [hh, if_pos (by decide)] at hs
  by_cases hl : (d.kids.length : Int) ≤ 9
  ·rw [if_pos (by simpa using hl)] at hs
   exact .app hs (by omega) (by omega) hh
  ·rw [if_neg (by simpa using hl)] at hs
   exact .none hs
 ·rw [if_neg (by simpa using hh)] at hs
  by_cases hf : fmOk (Yz d) d.kids = true
  ·rw [if_pos hf] at hs
   rcases yqQ hf with ⟨e, h⟩ | ⟨e, h⟩ | ⟨e, h, h3⟩ | ⟨e, h, h3, h4⟩ | ⟨e, h, h3⟩ | ⟨e, h⟩ | ⟨e, h, h3⟩ <;> rw [e] at hs
   ·exact .quote hs h
   ·exact .iff hs h
   ·exact .fn hs h h3
   ·exact .up hs h h3 h4
   ·exact .lett hs h h3
   ·exact .seqq hs h
   ·exact .recc hs h h3
  ·rw [if_neg hf] at hs
   exact .none hs
theorem ykM {d x : D} (h : zP d = true) (hx : x ∈ d.kids) : x.kids.length = 3 := by
 unfold zP at h
 split at h
 ·cases h
 ·split at h
  ·cases h
  ·rename_i h2
   have h3 : zU x = false := by
    cases hb : zU x with
    | false => rfl
    | true => exact absurd (List.any_eq_true.2 ⟨x, hx, hb⟩) h2
   unfold zU at h3
   simp only [Bool.or_eq_false_iff, bne_eq_false_iff_eq] at h3
   omega
theorem Ys {d : D} {q : Sub × D} (h : q ∈ subs d) : q.2.size < d.size := by
 have hk : ∀ {x : D}, x ∈ d.kids → x.size < d.size := fun hx => D.size_kid_lt hx
 have hm : ∀ (f : Nat → D → Sub × D) (l : List D), (∀ i x, (f i x).2 = x) → (∀ x, x ∈ l → x ∈ d.kids) → q ∈ mapI f l → q.2.size < d.size := by
  intro f l hf hl hq
  obtain ⟨i, x, hx, rfl⟩ := YL hq
  rw [hf]; exact hk (hl x (List.mem_of_getElem? hx))
 unfold subs at h
 cases shape d with
 | none e => rw [e] at h; simp at h
 | num e => rw [e] at h; simp at h
 | name e => rw [e] at h; simp at h
 | quote e => rw [e] at h; simp at h
 | iff e hl => rw [e] at h; exact hm (fun i x => ((⟨[(i : Int) + 1], []⟩ : Sub), x)) (d.kids.drop 1) (fun _ _ => rfl) (fun x hx => List.mem_of_mem_drop hx) h
 | seqq e hl => rw [e] at h; exact hm (fun i x => ((⟨[(i : Int) + 1], []⟩ : Sub), x)) (d.kids.drop 1) (fun _ _ => rfl) (fun x hx => List.mem_of_mem_drop hx) h
 | fn e hl => rw [e] at h; simp at h; subst h; exact hk (Yw (n := 2) (by omega))
 | up e hl => rw [e] at h; simp at h; subst h; exact hk (Yw (n := 2) (by omega))
 | lett e hl =>
  rw [e] at h; simp at h
  rcases h with rfl | rfl
  ·exact hk (Yw (n := 2) (by omega))
  ·exact hk (Yw (n := 3) (by omega))
 | recc e hl hn =>
  rw [e] at h; simp at h
  rcases h with h | rfl
  ·obtain ⟨i, x, hx, rfl⟩ := YL h
   have hxm := List.mem_of_getElem? hx
   have h1 := D.size_kid_lt (Yw (l := x.kids) (n := 2) (by rw [ykM hn hxm]; omega))
   have h2 := D.size_kid_lt hxm
   have h3 : (d1 d.kids).size < d.size := hk (Yw (n := 1) (by omega))
   show (d2 x.kids).size < d.size
   exact Nat.lt_trans h1 (Nat.lt_trans h2 h3)
  ·exact hk (Yw (n := 2) (by omega))
 | app e hl => rw [e] at h; exact hm _ _ (fun _ _ => rfl) (fun x hx => hx) (by simpa using h)
def yb7 {β : Type} (f : D → List (Sub × β) → β) : Nat → D → β
 | 0, d => f d []
 | n + 1, d => f d ((subs d).map fun q => (q.1, yb7 f n q.2))
def scata {β : Type} (f : D → List (Sub × β) → β) (d : D) : β := yb7 f d.size d
theorem ygX {β : Type} (f : D → List (Sub × β) → β) : ∀ (n m : Nat) (d : D), d.size ≤ n → d.size ≤ m → yb7 f n d = yb7 f m d
 | 0, _, d, h, _ => by have := D.size_pos d; omega
 | _, 0, d, _, h => by have := D.size_pos d; omega
 | n + 1, m + 1, d, h1, h2 => by
  unfold yb7
  congr 1
  refine List.map_congr_left fun q hq => ?_
  have := Ys hq
  rw [ygX f n m q.2 (by omega) (by omega)]
theorem ZB {β : Type} (f : D → List (Sub × β) → β) (d : D) : scata f d = f d ((subs d).map fun q => (q.1, scata f q.2)) := by
 unfold scata
 have := D.size_pos d
 obtain ⟨n, hn⟩ : ∃ n, d.size = n + 1 := ⟨d.size - 1, by omega⟩
 rw [hn, yb7]
 congr 1
 refine List.map_congr_left fun q hq => ?_
 have := Ys hq
 rw [ygX f n q.2.size q.2 (by omega) (Nat.le_refl _)]
theorem D.indS {P : D → Prop} (h : ∀ d, (∀ q, q ∈ subs d → P q.2) → P d) (d : D) : P d := by
 have : ∀ n (d : D), d.size ≤ n → P d := by
  intro n
  induction n with
  | zero => intro d hd; have := D.size_pos d; omega
  | succ n ih => intro d hd; exact h d fun q hq => ih q.2 (by have := Ys hq; omega)
 exact this d.size d (Nat.le_refl _)
def Zs (d : D) : Bool := scata (fun d rs => yb d != 0 && rs.all (·.2)) d
theorem ynF (d : D) : Zs d = (yb d != 0 && (subs d).all fun q => Zs q.2) := by
 show scata _ d = _
 rw [ZB, List.all_map]; rfl
def sfree (d : D) : List ByteArray → List ByteArray → List ByteArray :=
 scata (fun d rs l S => if (yb d == 2) = true then (if memB l d.text = true then S else addS S d.text) else rs.foldl (fun S q => q.2 (q.1.ns.map (·.1) ++ l) S) S) d
theorem yat (d : D) (l S : List ByteArray) : sfree d l S = if (yb d == 2) = true then (if memB l d.text = true then S else addS S d.text) else (subs d).foldl (fun S q => sfree q.2 (q.1.ns.map (·.1) ++ l) S) S := by
 show scata (β := List ByteArray → List ByteArray → List ByteArray) _ d l S = _
 rw [ZB]
 simp only [List.foldl_map]; rfl
end Go.Aw

namespace Go.Aw
open Go
variable {P : Program} {G : List (Nat × PV)} {B : Nat} {S : Nat → Nat → Prop} {w w' : World}
theorem RP.tab_inv {k : IntKind} {zs : List Int} {n : Nat} (h : RP B S w (.tab k zs) (.pointer (some ⟨n, 0, none⟩))) : ∃ e c, w.heap[n]? = some (.cells (zs.map (Value.int k)).toArray e c) := by
 cases h with
 | tab hb hh => exact ⟨_, _, hh⟩

theorem yol {name : String} {k : IntKind} {zs : List Int} {n : Nat} (hn : P.globalNamed name = some n) (h : RP B S w (.tab k zs) (.pointer (some ⟨n, 0, none⟩))) : Lib.TabIs P w name k zs := by
 obtain ⟨e, c, hh⟩ := h.tab_inv
 simp only [Lib.TabIs, World.var?, hn, Option.bind_some, hh]

theorem yg6 (w : World) (n : Nat) (os : Array Obj) (b : Nat) (hb : b < w.heap.size) : (Sort.grow (w.drewN n) os).heap[b]? = w.heap[b]? := by
 show (w.heap ++ os)[b]? = w.heap[b]?
 rw [Array.getElem?_append_left hb]

theorem yhD {f : FuncId} {ps : List PV} {q : PV} {name : String} {k : IntKind} {zs : List Int} {n : Nat} (l : List KA) (hps : yV l ps = true) (a : KA) (hq : a.fits q = true) (hn : P.globalNamed name = some n) (hG : (n, PV.tab k zs) ∈ G)
  (h : ∀ w, Lib.TabIs P w name k zs → Calls P f (ps.map yW).toArray w fun e w' => e = .returned (yW q) ∧ ∃ m os, w' = Sort.grow (w.drewN m) os) : Pur P G f (ps.map .pv) (.pv q) := by
 intro σ hgl g w cargs hinv hlen hargs
 have hc : cargs = ps.map yW := by
  refine yaG (B := g.B) (S := g.S) (w := w) hps (by simpa using hlen) (fun i x v hx hv => ?_)
  exact (hargs i (.pv x) v (by simp [hx]) hv).pv_inv
 subst hc
 have ht := yol hn (hinv.glob n (.tab k zs) (by rw [hgl]; exact hG))
 refine (h w ht).mono ?_
 rintro e w' ⟨rfl, m, os, rfl⟩
 have hs : w.heap.size ≤ (Sort.grow (w.drewN m) os).heap.size := by
  show w.heap.size ≤ (w.heap ++ os).size
  simp
 obtain ⟨h1, h2⟩ := hinv.step hs (fun b hb => yg6 w m os b hb)
 refine ⟨_, _, _, g, rfl, ⟨rfl, rfl⟩, h1, ⟨h2, rfl, fun _ h => h, fun b hb => yg6 w m os b (hinv.kept b hb).1, hs, rfl, rfl, rfl, hinv.lio, hinv.clo⟩, .pv ?_⟩
 cases a <;> cases q <;> simp [KA.fits] at hq <;> constructor
end Go.Aw

namespace Go.Aw
open Go
theorem ya5 (l : List ByteArray) (n : Int) : (numb l n).map (·.1) = l := by
 unfold numb
 apply List.ext_getElem?
 intro i
 rw [List.getElem?_map, zC]
 cases l[i]? <;> rfl
def sub0 (i : Nat) (x : D) : Sub × D := (⟨[(i : Int)], []⟩, x)
def sub1 (i : Nat) (x : D) : Sub × D := (⟨[(i : Int) + 1], []⟩, x)
def subR (d : D) (i : Nat) (x : D) : Sub × D := (⟨[1, (i : Int), 2], (numb (parS x) (yR (d1 d.kids).kids i)).reverse ++ (numb (ownS d) 0).reverse⟩, d2 x.kids)
def subL (d : D) (n : Int) (x : D) : Sub × D := (⟨[n], (numb (ownS d) 0).reverse⟩, x)
theorem zX {d : D} (h : yb d = 4 ∨ yb d = 8) : subs d = mapI sub1 (d.kids.drop 1) := by
 unfold subs; rcases h with h | h <;> rw [h] <;> rfl
theorem Yr {d : D} (h : yb d = 10) : subs d = mapI sub0 d.kids := by unfold subs; rw [h]; rfl
theorem yU {d : D} (h : yb d = 5 ∨ yb d = 9) : subs d = [subL d 2 (d2 d.kids)] := by
 unfold subs; rcases h with h | h <;> rw [h] <;> rfl
theorem yM {d : D} (h : yb d = 6) : subs d = [(⟨[2], []⟩, d2 d.kids), subL d 3 (d.kids.getD 3 dnone)] := by unfold subs; rw [h]; rfl
theorem zd {d : D} (h : yb d = 7) : subs d = mapI (subR d) (d1 d.kids).kids ++ [subL d 2 (d2 d.kids)] := by unfold subs; rw [h]; rfl
theorem Yb {d : D} (h : yb d = 0 ∨ yb d = 1 ∨ yb d = 2 ∨ yb d = 3) : subs d = [] := by
 unfold subs; rcases h with h | h | h | h <;> rw [h] <;> rfl
end Go.Aw

namespace Go.Aw
open Go
theorem ya4 {σ : Store} {ob : AObj} {S : List ByteArray} : setS { σ with objs := σ.objs ++ [ob] } σ.objs.length S = { σ with objs := σ.objs ++ [.map (tK S) (tV S)] } := by simp [setS]
end Go.Aw

namespace Go.Aw
open Go
theorem ynY {l : List D} {k : Nat} {x : D} (h : l[k]? = some x) : YY l k = (!nmS x || memB (((l.map D.text).take k).foldl addS []) x.text) := by
 unfold YY
 rw [h, ynk, ← List.map_take]
 rfl
theorem ylK : tK [] = [] := rfl
theorem ynr : tV [] = [] := rfl
theorem ybj {d y : D} (h : d.kids[0]? = some y) : d.head = y := by unfold D.head; rw [List.headD_eq_head?_getD, List.head?_eq_getElem?, h]; rfl
theorem yZ (d : D) : ((yb d = 5 ∨ yb d = 9 ∨ yb d = 7) → d.kids.length = 3) ∧ (yb d = 6 → d.kids.length = 4) ∧ (yb d = 7 → ∀ x, x ∈ (d1 d.kids).kids → x.kids.length = 3) := by
 refine ⟨fun h => ?_, fun h => ?_, fun h x hx => ?_⟩
 ·cases shape d <;> first | assumption | (rename_i e _; rw [e] at h; simp at h; done) | (rename_i e; rw [e] at h; simp at h; done) | (rename_i e _ _; rw [e] at h; simp at h; done) | (rename_i e _ _ _; rw [e] at h; simp at h; done)
 ·cases shape d <;> first | assumption | (rename_i e _; rw [e] at h; simp at h; done) | (rename_i e; rw [e] at h; simp at h; done) | (rename_i e _ _; rw [e] at h; simp at h; done) | (rename_i e _ _ _; rw [e] at h; simp at h; done)
 ·cases shape d <;> first | (exact ykM (by assumption) hx) | (rename_i e _; rw [e] at h; simp at h; done) | (rename_i e; rw [e] at h; simp at h; done) | (rename_i e _ _; rw [e] at h; simp at h; done) | (rename_i e _ _ _; rw [e] at h; simp at h; done)
theorem yn5 {l : List D} {x : D} (h : l[1]? = some x) : (List.take 2 (l.map enc)).tail = [enc x] := by
 match l, h with
 | a :: b :: r, h =>
  simp only [List.getElem?_cons_succ, List.getElem?_cons_zero, Option.some.injEq] at h
  subst h; rfl
theorem ydf {ls : List (List Int)} {k : Nat} {x : List Int} (h : ls[k]? = some x) : ((ls.map List.length).take (k + 1)).sum = ((ls.map List.length).take k).sum + x.length := by
 rw [yI (l := ls.map List.length) (k := k) (x := x.length) (by rw [List.getElem?_map, h]; rfl), List.sum_append]; simp
theorem ygM {ls : List (List Int)} {k : Nat} {x : List Int} (h : ls[k]? = some x) : (ls.take (k + 1)).flatten = (ls.take k).flatten ++ x := by
 rw [yI h, List.flatten_append]; simp
theorem yjL (ls : List (List Int)) (k : Nat) : ((ls.map List.length).take k).sum ≤ (ls.map List.length).sum := by
 conv => rhs; rw [← List.take_append_drop k (ls.map List.length), List.sum_append]
 omega
theorem yjZ (ls : List (List Int)) (k : Nat) : (ls.take k).flatten.length = ((ls.map List.length).take k).sum := by rw [List.length_flatten, List.map_take]
theorem yi0 (d : D) : (yb d = 4 ∨ yb d = 8) → 1 ≤ d.kids.length := by
 intro h
 cases shape d <;> first | omega | (rename_i e _; rw [e] at h; simp at h; done) | (rename_i e; rw [e] at h; simp at h; done) | (rename_i e _ _; rw [e] at h; simp at h; done) | (rename_i e _ _ _; rw [e] at h; simp at h; done)
def z8 (d : D) (fr bs : Nat) : Prop := bs + (d.kids.drop fr).length = (subs d).length ∧ ∀ (k : Nat) (x : D), (d.kids.drop fr)[k]? = some x → ∃ q, (subs d)[bs + k]? = some q ∧ q.1.p = [(fr : Int) + (k : Int)] ∧ q.2 = x
theorem yhr {d : D} (h : yb d = 4 ∨ yb d = 8) : z8 d 1 0 := by
 rw [z8, zX h]
 refine ⟨by rw [zu]; omega, fun k x hx => ⟨sub1 k x, by rw [Nat.zero_add, zC, hx]; rfl, ?_, rfl⟩⟩
 show [(k : Int) + 1] = [((1 : Nat) : Int) + (k : Int)]
 rw [Int.add_comm]; rfl
theorem yo4 {d : D} (h : yb d = 10) : z8 d 0 0 := by
 rw [z8, Yr h]
 refine ⟨by rw [zu]; simp, fun k x hx => ⟨sub0 k x, by rw [Nat.zero_add, zC]; rw [List.drop_zero] at hx; rw [hx]; rfl, ?_, rfl⟩⟩
 show [(k : Int)] = [((0 : Nat) : Int) + (k : Int)]
 rw [Int.natCast_zero, Int.zero_add]
theorem yie {l : List D} (h : l.length = 3) : l.drop 2 = [d2 l] := by
 match l, h with
 | [a, b, c], _ => rfl
theorem ymE {l : List D} (h : l.length = 4) : l.drop 2 = [d2 l, l.getD 3 dnone] := by
 match l, h with
 | [a, b, c, e], _ => rfl
theorem ya1 {d : D} (h : yb d = 5 ∨ yb d = 9) : z8 d 2 0 := by
 have hl := (yZ d).1 (h.elim .inl fun e => .inr (.inl e))
 rw [z8, yU h, yie hl]
 refine ⟨rfl, fun k x hx => ?_⟩
 match k, hx with
 | 0, hx => simp at hx; subst hx; exact ⟨_, rfl, rfl, rfl⟩
theorem yfv {d : D} (h : yb d = 6) : z8 d 2 0 := by
 have hl := (yZ d).2.1 h
 rw [z8, yM h, ymE hl]
 refine ⟨rfl, fun k x hx => ?_⟩
 match k, hx with
 | 0, hx => simp at hx; subst hx; exact ⟨_, rfl, rfl, rfl⟩
 | 1, hx => simp at hx; subst hx; exact ⟨_, rfl, rfl, rfl⟩
theorem yoS {d : D} (h : yb d = 7) : z8 d 2 (d1 d.kids).kids.length := by
 have hl := (yZ d).1 (.inr (.inr h))
 rw [z8, zd h, yie hl]
 refine ⟨by rw [List.length_append, zu]; rfl, fun k x hx => ?_⟩
 match k, hx with
 | 0, hx =>
  simp at hx; subst hx
  exact ⟨_, by rw [List.getElem?_append_right (by rw [zu]; omega), zu]; simp; rfl, rfl, rfl⟩
theorem yoQ {d : D} (h : yb d = 7) {i : Nat} {x : D} (hx : (d1 d.kids).kids[i]? = some x) : ∃ q, (subs d)[i]? = some q ∧ q.1.p = [1, (i : Int), 2] ∧ q.2 = d2 x.kids := by
 rw [zd h]
 refine ⟨subR d i x, ?_, rfl, rfl⟩
 rw [List.getElem?_append_left (by rw [zu]; exact (List.getElem?_eq_some_iff.1 hx).1), zC, hx]; rfl
end Go.Aw

namespace Go.Aw
open Go
def ygP (t : List Nat) (es : List Nat) : Nat := es.foldl (fun a j => a ||| ((1 <<< j) ||| t.getD j 0)) 0
def ZM (ops : Array Oper) : Nat → List Nat
  | 0 => []
  | n + 1 => let t := ZM ops n; t ++ [ygP t (edges ops .any n)]
def yj4 (ops : Array Oper) (m : Nat) : Bool :=
  zL ops .any && zL ops .text && zL ops .gc &&
  (let t := ZM ops ops.size
   (List.range ops.size).all fun i =>
    ((edges ops .any i).all fun j => decide (j < i)) &&
    (let p := t.getD i 0
     (List.range i).all fun k => p.testBit k || (decide (i < m) && (match ops[k]?, ops[i]? with | some ok, some oi => Zp ops ok oi | _, _ => false))))

theorem yez {t : List Nat} {k : Nat} : ∀ {es : List Nat} {a : Nat}, (es.foldl (fun a j => a ||| ((1 <<< j) ||| t.getD j 0)) a).testBit k = true → a.testBit k = true ∨ ∃ j, j ∈ es ∧ (k = j ∨ (t.getD j 0).testBit k = true)
  | [], a, h => .inl h
  | j :: es, a, h => by
    rw [List.foldl_cons] at h
    rcases yez h with h | ⟨j', h1, h2⟩
    · simp only [Nat.testBit_or, Bool.or_eq_true] at h
      rcases h with h | h | h
      · exact .inl h
      · refine .inr ⟨j, by simp, .inl ?_⟩
        rw [Nat.one_shiftLeft, Nat.testBit_two_pow] at h
        simpa [eq_comm] using h
      · exact .inr ⟨j, by simp, .inr h⟩
    · exact .inr ⟨j', by simp [h1], h2⟩

theorem yaE (ops : Array Oper) : ∀ n, (ZM ops n).length = n
  | 0 => rfl
  | n + 1 => by simp [ZM, yaE ops n]
theorem yaD (ops : Array Oper) : ∀ n i, i < n → (ZM ops n).getD i 0 = ygP (ZM ops i) (edges ops .any i)
  | 0, i, h => by omega
  | n + 1, i, h => by
    simp only [ZM, List.getD_eq_getElem?_getD]
    by_cases hi : i < n
    · rw [List.getElem?_append_left (by rw [yaE]; exact hi)]
      have := yaD ops n i hi
      rw [List.getD_eq_getElem?_getD] at this
      exact this
    · have : i = n := by omega
      subst this
      rw [List.getElem?_append_right (by rw [yaE]; omega), yaE]
      simp

theorem yhy (ops : Array Oper) (hd : ∀ i, i < ops.size → ∀ j, j ∈ edges ops .any i → j < i) : ∀ i, i < ops.size → ∀ k f, i + 1 ≤ f → ((ZM ops ops.size).getD i 0).testBit k = true → k ∈ precs ops f i := by
  intro i
  induction i using Nat.strongRecOn with
  | _ i ih =>
    intro hi k f hf h
    rw [yaD ops _ i hi] at h
    unfold ygP at h
    obtain ⟨f, rfl⟩ : ∃ g, f = g + 1 := ⟨f - 1, by omega⟩
    rw [precs, List.mem_append, List.mem_flatMap]
    rcases yez h with h | ⟨j, h1, h2⟩
    · simp at h
    · have hj := hd i hi j h1
      rcases h2 with rfl | h2
      · exact .inl h1
      · refine .inr ⟨j, h1, ih j hj (by omega) k f (by omega) ?_⟩
        rw [yaD ops _ j (by omega)]
        rw [yaD ops i j hj] at h2
        exact h2

theorem yl6 {ops : Array Oper} {m : Nat} (h : yj4 ops m = true) : Y5 ops m = true := by
  simp only [yj4, Y5, Bool.and_eq_true, List.all_eq_true, List.mem_range, Bool.or_eq_true, decide_eq_true_eq] at h ⊢
  refine ⟨h.1, fun i hi k hk => ?_⟩
  rcases (h.2 i hi).2 k hk with h1 | h1
  · left
    rw [List.contains_iff_mem]
    exact yhy ops (fun i hi => (h.2 i hi).1) i hi k ops.size (by omega) h1
  · exact .inr h1
end Go.Aw

namespace Go.Aw
open Go
section
variable {P : Program} {ty : TyT} {g0 g : Ghost} {σ0 : Store} {w0 w : World} {N : Nat} {s : St} {a : Act} {o : Oper} {x : AV} {next : St → Prop} {tk : List Tok} {ops : Array Oper} {os : List Oper} {K : St → Prop} {L : List (List AV)} {σ : Store}
theorem RelG.newRow (r : RelG g0 σ0 w0 N g s a w) (hd : yJ N o.dst = true) {e : TypeId} {sz cap : Nat} {ys : List PV} {us rest : List Value} (hsz : ∀ x, x ∈ ys → x.cells.length = sz) (hcap : ys.length ≤ cap) (hmax : cap ≤ maxLen) (hul : us.length = ys.length * sz)
  (hrl : rest.length = (cap - ys.length) * sz) (hu1 : ∀ v, v ∈ us → v.oneCell' = true) (hur : ∀ (i : Nat) x u, (flat ys)[i]? = some x → us[i]? = some u → RP g.B g.S w x u) (h0 : 0 < cap) :
  ∃ g', RelG g0 σ0 w0 N g' (({ s with σ := { s.σ with objs := s.σ.objs ++ [.row e sz cap ys] } } : St).put o.dst (.scr s.σ.objs.length ys.length cap)) (a.put o.dst (.slice (some ⟨w.heap.size, 0, none⟩) ys.length cap)) (w.drew.alloc (.cells (us ++ rest).toArray e)) := by
 have k := r.2.1.drewN (w' := w.drew) rfl
 have r1 : RelG g0 σ0 w0 N g s a w.drew := r.later (σ' := s.σ) (L' := s.L) k.2 (fun _ _ h => h) k.1 rfl rfl (fun _ _ => rfl) (Nat.le_refl _) rfl rfl rfl
 obtain ⟨r2, f⟩ := r1.alloc (.cells (us ++ rest).toArray e)
 have hal := k.1.alloc (.cells (us ++ rest).toArray e)
 have hle := k.2.trans hal.2
 have hb : (w.drew.alloc (.cells (us ++ rest).toArray e)).heap[w.heap.size]? = some (.cells (us ++ rest).toArray e (0, 0)) := zI w.drew _
 have r3 := r2.addObj f (ob := .row e sz cap ys) ⟨hsz, hcap, hmax, us, rest, hb, hul, hrl, hu1, fun i x u hx hu => (hur i x u hx hu).mono hle.keeps⟩
 have hio : (g.io ++ [w.drew.heap.size])[s.σ.objs.length]? = some w.heap.size := by
  rw [← r.2.1.lio]; simp
 exact ⟨_, r3.put (.scr hio hcap h0) hd⟩

theorem yhF (hty : TyOk P ty) {p q : Operand} {t e : TypeId} {ti te : TyI} {ys : List PV} (ho : o.op = .call { callee := .builtin .append, args := #[p, q], argTypes := #[t, t] }) (hti : ty t = some ti) (hk : ti.kind = .slice e) (hte : ty e = some te)
  (hp : ev s p = .full []) (hq : (ev s q).elems = some ys) (hy0 : ys ≠ []) (hys : y4 te.size ys = true) (hb0 : 0 < te.bytes) (hbytes : ys.length * te.bytes ≤ 140737488355328) (hd : yJ N o.dst = true)
  (hnx : ∀ cap, ys.length ≤ cap → next (({ s with σ := { s.σ with objs := s.σ.objs ++ [.row e te.size cap ys] } } : St).put o.dst (.scr s.σ.objs.length ys.length cap))) : AOp P σ0 N o next s := by
 rintro g0 w0 a w nx Q ⟨g, r⟩ hnext
 obtain ⟨i, z, h7, h8, h9, h10, h11, h12, h13⟩ := (hty _ _ hte).info
 have hut := (hty _ _ hti).slice hk
 have hysz : ∀ x, x ∈ ys → x.cells.length = te.size := by simpa [y4] using hys
 have hu := (r.ev q).elems hq
 obtain ⟨ad2, c2, us, hqv, hc2, hul, hu1, hur, huc, hua⟩ := hu.row_cells hysz
 obtain ⟨b2, off2, rfl⟩ := hua hy0
 have hm0 : 0 < ys.length := List.length_pos_iff.2 hy0
 have hyl : ys.length ≤ 140737488355328 := Nat.le_trans (Nat.le_mul_of_pos_right _ hb0) hbytes
 have hnews : ∀ (j : Nat) (u : Value), us[j]? = some u → w.cell? ((⟨b2, off2, none⟩ : Addr).add j) = some u := by
  intro j u hj
  obtain ⟨b, off, hbo, h1, h2⟩ := huc j u hj
  cases hbo
  rw [y5]; exact h2
 have hpr := r.ev p
 rw [hp] at hpr
 generalize hpv : a.eval p = pv at hpr
 have hge := grownCap_ge w ys.length 0 e
 have hcm : grownCap w ys.length 0 e ≤ maxLen := grownCap_le_maxLen w _ 0 e (by simp only [maxLen]; omega)
 have hrun : (execOp a.eval o).run P w = .ok (.value (.slice (some ⟨w.heap.size, 0, none⟩) ys.length (grownCap w ys.length 0 e))) (w.drew.alloc (.cells (us ++ (Builtin.zeroCells z.cells (grownCap w ys.length 0 e - ys.length)).toList).toArray e)) := by
  refine Za ho ?_
  rw [hpv, hqv]
  have harr : (us ++ (Builtin.zeroCells z.cells (grownCap w ys.length 0 e - ys.length)).toList).toArray = us.toArray ++ Builtin.zeroCells z.cells (grownCap w ys.length 0 e - ys.length) := by
   apply Array.ext'; simp
  rw [harr]
  have hpv0 : ∃ ad, pv = .slice ad 0 0 := by
   cases hpr with
   | full h =>
    obtain ⟨ad', c', e1⟩ := h.slice_len
    simp only [List.length_nil, Value.slice.injEq] at e1
    obtain ⟨_, e2, _⟩ := e1
    exact ⟨_, by rw [e2]⟩
  clear hpr
  obtain ⟨ad, rfl⟩ := hpv0
  cases ad with
  | none => exact run_append_nil (P := P) w t o.type e i z hut h7 h10 ⟨b2, off2, none⟩ ys.length c2 us (by rw [h8]; exact hul) hnews hm0 (by omega) (by rw [h9]; omega)
  | some ad =>
   have hfit := growslice_fits (need := ys.length) (old := 0) (bytes := i.bytes) hm0 (by rw [h9]; exact hbytes)
   have hrr := run_append_grow (P := P) w t o.type e i z hut h7 h10 ad 0 0 [] (by rw [Nat.zero_mul]; rfl) (fun j u hj => by cases hj) ⟨b2, off2, none⟩ ys.length c2 us (by rw [h8]; exact hul) hnews (by omega) (by omega) (by rw [Nat.zero_add]; exact hfit)
   rw [Nat.zero_add] at hrr
   have e0 : ([] : List Value).toArray ++ us.toArray = us.toArray := by simp
   rw [e0] at hrr
   exact hrr
 unfold opW
 rw [hrun]
 generalize grownCap w ys.length 0 e = cap at hge hcm
 obtain ⟨g', r'⟩ := r.newRow (o := o) hd (e := e) (sz := te.size) (cap := cap) (ys := ys) (us := us) (rest := (Builtin.zeroCells z.cells (cap - ys.length)).toList) hysz hge hcm hul (by rw [Array.length_toList, size_zeroCells, h12]) hu1 hur (by omega)
 exact hnext _ _ _ (hnx cap hge) ⟨g', r'⟩

end
end Go.Aw

namespace Go.Aw
open Go
section
variable {P : Program} {g : Ghost} {σ : Store} {L : List (List AV)} {w : World}
theorem Inv.newTok (h : Inv g σ L w) {t : Tok} (h0 : t.n = 0) {b cap : Nat} (f : Fresh g w b) {cur : Array Value} (hb : w.heap[b]? = some (.cells cur t.e (0, 0))) (hsz : cur.size = cap * t.sz) (hm : cap ≤ maxLen) :
  Inv { g with tb := g.tb ++ [some ⟨b, cap⟩] } { σ with toks := σ.toks ++ [t] } L w ∧ Le g σ.toks w { g with tb := g.tb ++ [some ⟨b, cap⟩] } (σ.toks ++ [t]) w := by
 have le : Le g σ.toks w { g with tb := g.tb ++ [some ⟨b, cap⟩] } (σ.toks ++ [t]) w := by
  refine ⟨rfl, Keeps.refl _ _ _, fun _ _ h => h, fun k t' ht => ⟨t', yL ht, rfl, rfl, Nat.le_refl _, fun _ => ?_⟩⟩
  have hlt : k < g.tb.length := by rw [h.ltb]; exact (List.getElem?_eq_some_iff.1 ht).1
  exact List.getElem?_append_left hlt
 have hown : ({ g with tb := g.tb ++ [some ⟨b, cap⟩] } : Ghost).owned = g.owned ++ [b] := by simp [Ghost.owned]
 refine ⟨⟨h.lio, h.llam, by simp [h.ltb], h.glob, ?_, ?_, h.kept, h.base, h.cells, fun o ob c ho hio => (h.objs o ob c ho hio).mono le (fun _ _ h => h) rfl, fun i cs c hL hl => (h.priv i cs c hL hl).mono le (fun _ _ h => h) rfl, fun k t' tb ht htb => ?_⟩, le⟩
 ·rw [hown]
  refine List.nodup_append.2 ⟨h.nodup, by simp, fun x hx y hy e => ?_⟩
  rw [List.mem_singleton] at hy
  subst hy e
  exact f.own hx
 ·rw [hown]
  intro c hc
  rcases List.mem_append.1 hc with hc | hc
  ·exact h.low c hc
  ·rw [List.mem_singleton] at hc
   subst hc
   exact ⟨f.low, f.lt, f.K⟩
 ·rcases getElem?_snoc htb with hb2 | ⟨hk, hb2⟩
  ·have hlt : k < σ.toks.length := by rw [← h.ltb]; exact (List.getElem?_eq_some_iff.1 hb2).1
   simp only [List.getElem?_append_left hlt] at ht
   exact h.toks k t' tb ht hb2
  ·simp only [Option.some.injEq] at hb2
   subst hb2
   have hkk : k = σ.toks.length := by rw [← h.ltb]; exact hk
   subst hkk
   simp only [List.getElem?_append_right (Nat.le_refl _), Nat.sub_self, List.getElem?_cons_zero, Option.some.injEq] at ht
   subst ht
   exact ⟨cur, hb, hsz, by rw [h0]; exact Nat.zero_le _, hm, fun o hS => absurd hS (f.S o)⟩
theorem yj3 {f : FuncId} {e : TypeId} (hroom : ∀ w, Calls P f #[.slice none 0 0, .int .i64 (0 : Nat)] w fun r w' => r = .returned (.slice none 0 0) ∧ w' = w)
  (hgrow : ∀ (n : Nat) w, 0 < n → n ≤ 1000000000 → Calls P f #[.slice none 0 0, .int .i64 n] w fun r w' => ∃ (cap : Nat) (cur : Array Value), r = .returned (.slice (some ⟨w.heap.size, 0, none⟩) 0 cap) ∧ w' = w.drew.alloc (.cells cur e) ∧ cur.size = cap ∧ cap ≤ maxLen)
  (n : Nat) (hn : n ≤ 1000000000) (σ : Store) : ACalls P f [.pv .nils, .pv (.int .i64 n)] σ fun r σ' => r = .acc [] σ.toks.length ∧ σ' = { σ with toks := σ.toks ++ [⟨0, e, 1⟩] } := by
 intro g w cargs hinv hlen hargs
 have hc : cargs.toArray = #[.slice none 0 0, .int .i64 n] := by
  match cargs, hlen with
  | [u, v], hl2 =>
   have h1 := (hargs 0 _ u rfl rfl).pv_inv.nils_inv
   have h2 := (hargs 1 _ v rfl rfl).pv_inv.int_inv
   rw [h1, h2]
 rw [hc]
 by_cases hn0 : n = 0
 ·subst hn0
  refine (hroom w).mono ?_
  rintro r w' ⟨rfl, rfl⟩
  obtain ⟨i1, le1⟩ := hinv.adopt ⟨0, e, 1⟩
  refine ⟨_, _, _, _, rfl, ⟨rfl, rfl⟩, i1, ⟨le1, rfl, fun _ h => h, fun _ _ => rfl, Nat.le_refl _, rfl, rfl, rfl, hinv.lio, hinv.clo⟩, ?_⟩
  exact .acc (t := ⟨0, e, 1⟩) .empty (by simp) (Nat.le_refl _) (fun x hx => by simp at hx) (fun _ => .inr ⟨none, rfl⟩)
 ·refine (hgrow n w (by omega) hn).mono ?_
  rintro r w' ⟨cap, cur, rfl, rfl, hcs, hcm⟩
  have hst := (hinv.drewN (w' := w.drew) rfl)
  have hal := hst.1.alloc (.cells cur e)
  have hfr := hst.1.fresh (.cells cur e)
  obtain ⟨i1, le1⟩ := hal.1.newTok (t := ⟨0, e, 1⟩) rfl (b := w.heap.size) (cap := cap) (cur := cur) hfr (zI w.drew _) (by simp [hcs]) hcm
  have le := hst.2.trans (hal.2.trans le1)
  refine ⟨_, _, _, _, rfl, ⟨rfl, rfl⟩, i1, ⟨le, rfl, fun _ h => h, fun b hK => Go.RowKit.Below.heap_alloc w.drew _ b (hinv.kept b hK).1, by simp, rfl, rfl, rfl, hinv.lio, hinv.clo⟩, ?_⟩
  refine .acc (t := ⟨0, e, 1⟩) .empty (by simp) (Nat.le_refl _) (fun x hx => by simp at hx) (fun _ => .inl ⟨⟨w.heap.size, cap⟩, ?_, rfl⟩)
  have hlt : σ.toks.length = g.tb.length := hinv.ltb.symm
  rw [hlt]; simp
end
end Go.Aw

namespace Go.Aw
open Go
section
variable {ρ : Option Nat} {P : Program} {ty : TyT} {g0 g : Ghost} {σ0 σ : Store} {w0 w : World} {N M : Nat} {s : St} {a : Act} {tk : List Tok} {L : List (List AV)}
theorem yhO (w : World) (b : Nat) (ob : Obj) : w.putObj b ob = zk w b ob := rfl

theorem Inv.setRec (h : Inv g σ L w) {o b l : Nat} {st : LoopState} {pe : Option Code} {T : List (Nat × AV)} {ps : Array Tmp} {asg body : Code} (hi : g.io[o]? = some b) (ho : σ.objs[o]? = some (.loop l st pe T M ps asg body)) :
  b = l ∧ ∃ r : Loop, w.heap[b]? = some (.loop r) ∧ r.state = st ∧ r.pending = pe ∧ r.params = ps ∧ r.assign = asg ∧ r.body = body ∧ r.tmps.size = M ∧ (∀ t, RA g σ.toks w (get T t) (r.tmps.getD t undef)) ∧ (∀ x, x ∈ T.map (·.2) → x.noL = true) ∧
   ∀ st' pe', Inv g { σ with objs := σ.objs.set o (.loop l st' pe' T M ps asg body) } L (w.putObj b (.loop { r with state := st', pending := pe' })) ∧
    Le g σ.toks w g σ.toks (w.putObj b (.loop { r with state := st', pending := pe' })) ∧ ∀ c : Nat, g.K c → (w.putObj b (.loop { r with state := st', pending := pe' })).heap[c]? = w.heap[c]? := by
 obtain ⟨⟨hbl, hnl, hnd⟩, fn, tmps, D, k1, k2, k3⟩ := h.objs o _ b ho hi
 refine ⟨hbl, _, k1, rfl, rfl, rfl, rfl, rfl, k2, k3, hnl, fun st' pe' => ?_⟩
 rw [yhO]
 obtain ⟨le, hK⟩ := h.turn (ob := .loop { state := st', pending := pe', fn, tmps, params := ps, assign := asg, body, defers := D }) k1 (.inl (List.mem_of_getElem? hi))
 refine ⟨?_, le, hK⟩
 have ap := h.apart
 have hbm : b ∈ g.io := List.mem_of_getElem? hi
 refine ⟨by simp [h.lio], h.llam, h.ltb, fun n p hp => (h.glob n p hp).mono le.keeps, h.nodup, fun c hc => by rw [yP]; exact h.low c hc, fun c hc => by rw [yP]; exact h.kept c hc, by rw [yP]; exact h.base, fun c o hS => by rw [yP]; exact h.cells c o hS, fun j ob c ho' hio => ?_, fun j cs' c hL hl => ?_, fun k t tb ht htb => ?_⟩
 ·simp only [List.getElem?_set] at ho'
  split at ho'
  ·subst_vars
   rw [hi] at hio; cases hio
   split at ho'
   ·cases ho'
    exact ⟨⟨rfl, hnl, hnd⟩, fn, tmps, D, ZL k1, rfl, fun t => (k3 t).mono le (fun _ _ h => h)⟩
   ·cases ho'
  ·refine (h.objs j ob c ho' hio).mono le (fun _ _ h => h) (y3 ?_)
   rintro rfl; exact ‹¬ o = j› (Ya ap.1.1 hi hio)
 ·refine (h.priv j cs' c hL hl).mono le (fun _ _ h => h) (y3 ?_)
  rintro rfl; exact ap.2.1 _ hbm (List.mem_of_getElem? hl)
 ·obtain ⟨cur, h1, h2⟩ := h.toks k t tb ht htb
  refine ⟨cur, (y3 ?_).trans h1, h2⟩
  intro he; exact (ap.2.2 k tb htb).1 (he ▸ hbm)

def Store.rec_ (σ : Store) (o l : Nat) (st : LoopState) (pe : Option Code) (T : List (Nat × AV)) (M : Nat) (ps : Array Tmp) (asg body : Code) : Store := { σ with objs := σ.objs.set o (.loop l st pe T M ps asg body) }

theorem RelG.setRec (r : RelG g0 σ0 w0 N g s a w) {o b l : Nat} {st : LoopState} {pe : Option Code} {T : List (Nat × AV)} {ps : Array Tmp} {asg body : Code} (hi : g.io[o]? = some b) (ho : s.σ.objs[o]? = some (.loop l st pe T M ps asg body)) :
  b = l ∧ ∃ r : Loop, w.heap[l]? = some (.loop r) ∧ r.state = st ∧ r.pending = pe ∧
   ∀ st' pe', RelG g0 σ0 w0 N g { s with σ := s.σ.rec_ o l st' pe' T M ps asg body } a (w.putObj l (.loop { r with state := st', pending := pe' })) := by
 obtain ⟨rfl, rc, k1, k2, k3, k4, k5, k6, k7, k8, k9, k10⟩ := r.2.1.setRec hi ho
 refine ⟨rfl, rc, k1, k2, k3, fun st' pe' => ?_⟩
 obtain ⟨j1, j2, j3⟩ := k10 st' pe'
 exact r.later (σ' := s.σ.rec_ o b st' pe' T M ps asg body) (L' := s.L) j2 (fun _ _ h => h) j1 rfl rfl j3 (by rw [World.putObj_size]; exact Nat.le_refl _) rfl rfl rfl

def ACallsY (P : Program) (l : Nat) (args : List AV) (σ : Store) (R : AV → Store → Prop) : Prop :=
 ∀ g w (cargs : List Value), Inv g σ [] w → cargs.length = args.length → (∀ (i : Nat) x v, args[i]? = some x → cargs[i]? = some v → RA g σ.toks w x v) →
  ∃ fn tmps asg body, (Instr.yield l cargs.toArray).run P w = .ok (.round l fn tmps asg body) w ∧
   RoundIn Fence.wide 0 P l fn tmps asg body w fun e w' => ∃ v r σ' g', e = .returned v ∧ R r σ' ∧ Inv g' σ' [] w' ∧ Ext g σ w g' σ' w' ∧ RA g' σ'.toks w' r v

theorem ACallsY.mono {l : Nat} {args : List AV} {R R' : AV → Store → Prop} (h : ACallsY P l args σ R) (k : ∀ r σ', R r σ' → R' r σ') : ACallsY P l args σ R' := by
 intro g w cargs h1 h2 h3
 obtain ⟨fn, tmps, asg, body, k1, k2⟩ := h g w cargs h1 h2 h3
 exact ⟨fn, tmps, asg, body, k1, k2.mono fun _ _ ⟨v, r, σ', g', e1, e2, e3⟩ => ⟨v, r, σ', g', e1, k _ _ e2, e3⟩⟩

theorem ACallsY.args {l : Nat} {xs ys : List AV} {R : AV → Store → Prop} (h : ACallsY P l ys σ R) (hw : WAs xs ys) : ACallsY P l xs σ R := by
 intro g w cargs h1 h2 h3
 obtain ⟨k1, k2⟩ := ygA hw
 refine h g w cargs h1 (by rw [h2, k1]) (fun i x v hx hv => ?_)
 have hi : i < xs.length := by rw [k1]; exact (List.getElem?_eq_some_iff.1 hx).1
 exact (h3 i xs[i] v (by simp) hv).wa (k2 i xs[i] x (by simp) hx)

def ycG (ps : List Tmp) (args : List AV) (T : List (Nat × AV)) : List (Nat × AV) := (ps.zip args).foldl (fun T p => p :: T) T

theorem ygZ : ∀ (ps : List Tmp) (args : List AV) (cargs : List Value) (T : List (Nat × AV)) (tmps : Array Value), cargs.length = args.length → tmps.size = N → (∀ p, p ∈ ps → p < N) → (∀ (i : Nat) x v, args[i]? = some x → cargs[i]? = some v → RA g tk w x v) →
  (∀ t, RA g tk w (get T t) (tmps.getD t undef)) →
  ((ps.zip cargs).foldl (fun tmps (p : Tmp × Value) => tmps.setIfInBounds p.1 p.2) tmps).size = N ∧ ∀ t, RA g tk w (get (ycG ps args T) t) (((ps.zip cargs).foldl (fun tmps (p : Tmp × Value) => tmps.setIfInBounds p.1 p.2) tmps).getD t undef)
 | [], args, cargs, T, tmps, _, hN, _, _, h => by simp only [ycG, List.zip_nil_left, List.foldl_nil]; exact ⟨hN, h⟩
 | p :: ps, [], [], T, tmps, _, hN, _, _, h => by simp only [ycG, List.zip_nil_right, List.foldl_nil]; exact ⟨hN, h⟩
 | p :: ps, [], _ :: _, T, tmps, hl, _, _, _, _ => by simp at hl
 | p :: ps, _ :: _, [], T, tmps, hl, _, _, _, _ => by simp at hl
 | p :: ps, x :: args, v :: cargs, T, tmps, hl, hN, hp, hr, h => by
  simp only [ycG, List.zip_cons_cons, List.foldl_cons]
  refine ygZ ps args cargs ((p, x) :: T) (tmps.setIfInBounds p v) (by simpa using hl) (by simpa using hN) (fun q hq => hp q (by simp [hq])) (fun i y u hy hu => hr (i + 1) y u (by simpa using hy) (by simpa using hu)) (fun t => ?_)
  simp only [get]
  by_cases e : p = t
  ·subst e
   rw [if_pos rfl]
   have : (tmps.setIfInBounds p v).getD p undef = v := by
    simp only [Array.getD_eq_getD_getElem?, Array.getElem?_setIfInBounds]
    have hpN : p < tmps.size := by rw [hN]; exact hp p (by simp)
    simp [hpN]
   rw [this]
   exact hr 0 x v rfl rfl
  ·rw [if_neg e]
   have : (tmps.setIfInBounds p v).getD t undef = tmps.getD t undef := by
    simp only [Array.getD_eq_getD_getElem?, Array.getElem?_setIfInBounds]
    rw [if_neg e]
   rw [this]; exact h t

def yl4 (o l : Nat) (R : AV → Store → Prop) (e : Exit) (s : St) : Prop :=
 ∃ pe T M ps asg body, s.σ.objs[o]? = some (.loop l .busy pe T M ps asg body) ∧ match e with
  | .normal => R (.pv (.bool true)) (s.σ.rec_ o l .ready none T M ps asg body)
  | .ret => R (.pv (.bool false)) (s.σ.rec_ o l .done (some .ret) T M ps asg body)
  | .exit id => R (.pv (.bool false)) (s.σ.rec_ o l .done (some (.exit id)) T M ps asg body)
  | .goto t => R (.pv (.bool false)) (s.σ.rec_ o l .done (some (.goto t)) T M ps asg body)
  | _ => False

def Begun (ρ : Option Nat) (P : Program) (σ0 : Store) (N o l : Nat) (body : Code) (Q : Exit → St → Prop) (s : St) : Prop :=
 ∃ pe T M ps asg bd, s.σ.objs[o]? = some (.loop l .ready pe T M ps asg bd) ∧ AWpR ρ P σ0 N body Q { s with σ := s.σ.rec_ o l .busy pe T M ps asg bd }

def yk2 (next : St → Prop) : Exit → St → Prop
 | .normal, s => next s
 | _, _ => False

theorem Z7 {o l : Nat} {pe : Option Code} {T : List (Nat × AV)} {ps : Array Tmp} {asg body : Code} {args : List AV} {R : AV → Store → Prop} (ho : σ.objs[o]? = some (.loop l .ready pe T N ps asg body)) (hlen : args.length = ps.size) (hps : ps.toList.all (fun p => decide (p < N)) = true)
  (h : AWpR (some l) P σ N asg (yk2 (Begun (some l) P σ N o l body (yl4 o l R))) ⟨ycG ps.toList args T, [], σ⟩) : ACallsY P l args σ R := by
 intro g w cargs hinv hl hargs
 have hlt : o < g.io.length := by rw [hinv.lio]; exact (List.getElem?_eq_some_iff.1 ho).1
 have hio : g.io[o]? = some g.io[o] := List.getElem?_eq_getElem hlt
 generalize g.io[o] = b at hio
 obtain ⟨rfl, rc, k1, k2, k3, k4, k5, k6, k7, k8, k9, _⟩ := hinv.setRec hio ho
 have hy := run_yield (P := P) (args := cargs.toArray) k1 (by rw [k4, ← hlen, ← hl]; simp)
 rw [k4, k5, k6] at hy
 refine ⟨_, _, _, _, hy, roundIn_of_wpIn trivial ?_⟩
 have hp : ∀ p, p ∈ ps.toList → p < N := fun p hp => by simpa using List.all_eq_true.1 hps p hp
 obtain ⟨j1, j2⟩ := ygZ (tk := σ.toks) ps.toList args cargs T rc.tmps hl k7 hp hargs k8
 have hz : (ps.zip cargs.toArray).foldl (fun tmps (t, a) => tmps.setIfInBounds t a) rc.tmps = (ps.toList.zip cargs).foldl (fun tmps (p : Tmp × Value) => tmps.setIfInBounds p.1 p.2) rc.tmps := by
  rw [← Array.foldl_toList, Array.toList_zip]
 rw [hz]
 have hrel : RelG g σ w N g ⟨ycG ps.toList args T, [], σ⟩ { tmps := (ps.toList.zip cargs).foldl (fun tmps (p : Tmp × Value) => tmps.setIfInBounds p.1 p.2) rc.tmps, defers := [] } w :=
  ⟨Ext.refl hinv, hinv, j1, Marks.nil, j2⟩
 refine wpIn_mono (F := wF (some b)) (h g w _ w ⟨g, hrel⟩) ?_
 rintro e a1 w1 ⟨s1, q, g1, r1⟩
 cases e with
 | normal =>
  obtain ⟨pe1, T1, M1, ps1, asg1, bd1, ho1, hb⟩ := q
  obtain ⟨_, rc1, m1, m2, m3, m4⟩ := r1.setRec (r1.1.le.io o b hio) ho1
  refine ⟨_, run_beginRound m1 m2, ?_⟩
  have hrc : ({ rc1 with state := .busy } : Loop) = { rc1 with state := .busy, pending := pe1 } := by rw [← m3]
  rw [hrc]
  refine wpIn_mono (F := wF (some b)) (hb g w a1 _ ⟨g1, m4 .busy pe1⟩) ?_
  rintro e2 a2 w2 ⟨s2, ⟨pe2, T2, M2, ps2, asg2, bd2, ho2, hR⟩, g2, r2⟩
  obtain ⟨_, rc2, n1, n2, n3, n4⟩ := r2.setRec (r2.1.le.io o b hio) ho2
  have fin : ∀ (jump : Option Code), R (.pv (.bool jump.isNone)) (s2.σ.rec_ o b (if jump.isNone then .ready else .done) jump T2 M2 ps2 asg2 bd2) →
    ∃ v w', (Instr.endRound b jump).run P w2 = .ok v w' ∧ ∃ v' r σ' g', Ending.returned v = .returned v' ∧ R r σ' ∧ Inv g' σ' [] w' ∧ Ext g σ w g' σ' w' ∧ RA g' σ'.toks w' r v' := by
   intro jump hR
   have r3 := n4 (if jump.isNone then .ready else .done) jump
   refine ⟨_, _, run_endRound jump n1, _, _, _, { g2 with lam := [] }, rfl, hR, r3.2.1.noPriv, ⟨⟨r3.1.le.B, r3.1.le.keeps, r3.1.le.io, r3.1.le.tok⟩, r3.1.gl, r3.1.K, r3.1.blk, r3.1.size, r3.1.os, r3.1.tape, r3.1.output, r3.1.io0, r3.1.clo0⟩, .pv .bool⟩
  cases e2 with
  | normal => exact fin none hR
  | ret => exact fin (some .ret) hR
  | exit id => exact fin (some (.exit id)) hR
  | goto t => exact fin (some (.goto t)) hR
  | panic => exact hR.elim
  | outgrown => exact hR.elim
 | ret => exact q.elim
 | exit id => exact q.elim
 | goto t => exact q.elim
 | panic => exact q.elim
 | outgrown => exact q.elim

theorem ymX {next : St → Prop} {o : Oper} {c : Call} {fo : Operand} {l : Nat} {caps : List AV} (ho : o.op = .call c) (hc : c.callee = .value fo) (hf : ev s fo = .func (.yield l) caps) (hnl : AV.noLs (c.args.toList.map (ev s)) = true) (hd : yJ N o.dst = true)
  (h : ACallsY P l (c.args.toList.map (ev s)) s.σ fun r σ' => next (({ s with σ := σ' } : St).put o.dst r)) : AOp P σ0 N o next s := by
 rintro g0 w0 a w nx Q ⟨g, r⟩ hnext
 have hfv := r.ev fo
 rw [hf] at hfv
 generalize hv : a.eval fo = fv at hfv
 cases hfv with
 | func hl hr =>
  rename_i vs
  have hnl' := AV.noLs_iff.1 hnl
  obtain ⟨fn, tmps, asg, body, k1, k2⟩ := h _ w (c.args.toList.map a.eval) r.2.1.toCallee (by simp) (fun i x v hx hv => (r.evs c.args.toList i x v hx hv).toCallee (hnl' x (List.mem_of_getElem? hx)) _ _)
  have hargs : (c.args.toList.map a.eval).toArray = c.args.map a.eval := Array.ext' (by simp)
  rw [hargs] at k1
  have hrun : (execOp a.eval o).run P w = .ok (.round l fn tmps asg body) w := by
   simp only [execOp, ho, resolve, hc, hv, Deferred.ofValue, Sem.run_bind, Sem.run_pure, Result.andThen_ok, invoke]
   simpa using k1
  unfold opW
  rw [hrun]
  refine RoundIn.mono k2 ?_
  rintro e w' ⟨v, rr, σ', g', rfl, hR, hinv, hext, hra⟩
  obtain ⟨i1, le1⟩ := r.2.1.fromCallee hinv hext
  have r' := r.later (σ' := σ') (L' := s.L) le1 (fun _ _ h => h) i1 rfl hext.gl (fun b hb => hext.blk b (.inl hb)) hext.size hext.os hext.tape hext.output
  have hg : g' = { g' with lam := [] } := by
   have : g'.lam = [] := List.eq_nil_of_length_eq_zero (by rw [hinv.llam]; rfl)
   cases g'; simp_all
  rw [hg] at hra
  exact hnext _ _ _ hR ⟨_, r'.put (hra.noLam _ _) hd⟩

theorem Zo {ops : Array Oper} {os : List Oper} {o : Oper} {K : St → Prop} {c : Call} {fo : Operand} {l : Nat} {xs args caps : List AV} {R : AV → Store → Prop} (hg : o.guard = none) (ho : o.op = .call c) (hc : c.callee = .value fo) (hf : ev s fo = .func (.yield l) caps) (h : ACallsY P l args s.σ R)
  (hargs : c.args.toList.map (ev s) = xs) (hw : WAs xs args) (hnl : AV.noLs xs = true) (hd : yJ N o.dst = true) (k : ∀ r σ', R r σ' → AOpsL P σ0 N ops os K (({ s with σ := σ' } : St).put o.dst r)) : AOpsL P σ0 N ops (o :: os) K s := by
 subst hargs
 exact YC hg (ymX ho hc hf hnl hd ((h.args hw).mono k))

def YH (T : List (Nat × AV)) (slots : List Nat) : List (Nat × AV) := slots.map fun t => (t, get T t)
theorem yhf (T : List (Nat × AV)) (t : Nat) : ∀ slots : List Nat, get (YH T slots) t = if t ∈ slots then get T t else .junk
 | [] => rfl
 | x :: r => by
  have ih := yhf T t r
  simp only [YH, List.map_cons, get] at ih ⊢
  by_cases h : x = t
  ·subst h; simp
  ·rw [if_neg h, ih]
   simp [Ne.symm h]

def ylG (P : Program) (σ0 : Store) (N : Nat) (o l : Nat) (Q : Exit → St → Prop) (s : St) (σ' : Store) : Prop :=
 ∃ st pe T M ps asg body, σ'.objs[o]? = some (.loop l st pe T M ps asg body) ∧ st ≠ .busy ∧
  match pe with
  | none => Q .normal { s with σ := σ'.rec_ o l .exhausted none T M ps asg body }
  | some c => AWp P σ0 N c Q { s with σ := σ'.rec_ o l .exhausted (some c) T M ps asg body }

theorem Inv.addK (h : Inv g σ L w) {D : Nat} (f : Fresh g w D) : Inv { g with K := fun b => g.K b ∨ b = D } σ L w ∧ Le g σ.toks w { g with K := fun b => g.K b ∨ b = D } σ.toks w := by
 have le : Le g σ.toks w { g with K := fun b => g.K b ∨ b = D } σ.toks w := ⟨rfl, Keeps.refl _ _ _, fun _ _ h => h, fun _ t h => ⟨t, h, rfl, rfl, Nat.le_refl _, fun _ => rfl⟩⟩
 refine ⟨⟨h.lio, h.llam, h.ltb, h.glob, h.nodup, fun b hb => ⟨(h.low b hb).1, (h.low b hb).2.1, ?_⟩, fun b hb => ?_, h.base, h.cells, fun o ob b ho hio => (h.objs o ob b ho hio).mono le (fun _ _ h => h) rfl, fun i cs b hL hl => (h.priv i cs b hL hl).mono le (fun _ _ h => h) rfl, h.toks⟩, le⟩
 ·rintro (hK | rfl)
  ·exact (h.low b hb).2.2 hK
  ·exact f.own hb
 ·rcases hb with hb | rfl
  ·exact h.kept b hb
  ·exact ⟨f.lt, f.S⟩

theorem Y9 {Q : Exit → St → Prop} {gop : Operand} {ps : Array Tmp} {asg body : Code} {gf : FuncId} {caps : List AV} (slots : List Nat) (hg : ev s gop = .func (.func gf) caps) (hca : Callable P gf) (hnl : AV.noLs caps = true) (hT : (YH s.T slots).all (fun p => p.2.noL) = true) (hnd : slots.Nodup)
  (h : ∀ l : Nat, ACalls P gf (.func (.yield l) [] :: caps) { s.σ with objs := s.σ.objs ++ [.loop l .ready none (YH s.T slots) N ps asg body] } fun _ σ' => ylG P σ0 N s.σ.objs.length l Q s σ') :
  AWp P σ0 N (.rangeFunc gop ps asg body) Q s := by
 rintro g0 w0 a w ⟨g, r⟩
 have hgv := r.ev gop
 rw [hg] at hgv
 generalize hv : a.eval gop = gv at hgv
 obtain ⟨D, hD⟩ : ∃ D, D = w.heap.size := ⟨_, rfl⟩
 obtain ⟨r1, f1⟩ := r.alloc (.deferred (some []))
 rw [← hD] at f1
 obtain ⟨i2, le2⟩ := r1.2.1.addK f1
 have hDn : ¬ g.K D := f1.K
 obtain ⟨Ds, d1, d2, d3⟩ := r1.2.2.2.1
 have hDh : (w.alloc (.deferred (some []))).heap[D]? = some (.deferred (some [])) := by rw [hD]; exact zI w _
 have r2 : RelG g0 σ0 w0 N { g with K := fun b => g.K b ∨ b = D } s { a with defers := { target := .collected D, args := #[] } :: a.defers } (w.alloc (.deferred (some []))) := by
  refine ⟨⟨r1.1.le.trans le2, r1.1.gl, fun b hb => .inl (r1.1.K b hb), r1.1.blk, r1.1.size, r1.1.os, r1.1.tape, r1.1.output, r1.1.io0, r1.1.clo0⟩, i2, r1.2.2.1, ⟨D :: Ds, by simp [d1], List.nodup_cons.2 ⟨fun hm => hDn (d3 D hm).1, d2⟩, fun D' hD' => ?_⟩, fun t => (r1.2.2.2.2 t).mono le2 fun _ _ h => h⟩
  rcases List.mem_cons.1 hD' with rfl | hD'
  ·exact ⟨.inr rfl, fun h0 => hDn (r1.1.K _ h0), f1.low, hDh⟩
  ·have := d3 D' hD'
   exact ⟨.inl this.1, this.2⟩
 obtain ⟨l, hl⟩ : ∃ l, l = w.heap.size + 1 := ⟨_, rfl⟩
 have hl1 : l = (w.alloc (.deferred (some []))).heap.size := by rw [hl]; simp
 refine wpIn_rangeFunc (F := wF none) ?_
 intro fn _
 obtain ⟨rec, hrec⟩ : ∃ rec : Loop, rec = { state := .ready, pending := none, fn, tmps := a.tmps, params := ps, assign := asg, body, defers := w.heap.size } := ⟨_, rfl⟩
 obtain ⟨r3, f3⟩ := r2.alloc (.loop rec)
 rw [← hl1] at f3
 have hTn : ∀ x, x ∈ (YH s.T slots).map (·.2) → x.noL = true := by
  intro x hx
  obtain ⟨p, hp, rfl⟩ := List.mem_map.1 hx
  exact List.all_eq_true.1 hT p hp
 have hob : RObj { g with K := fun b => g.K b ∨ b = D } s.σ.toks ((w.alloc (.deferred (some []))).alloc (.loop rec)) l (.loop l .ready none (YH s.T slots) N ps asg body) := by
  refine ⟨⟨rfl, hTn, by simpa [YH, List.map_map, Function.comp_def] using hnd⟩, fn, a.tmps, w.heap.size, by rw [hl1, ← hrec]; exact zI _ _, r.2.2.1, fun t => ?_⟩
  rw [yhf]
  split
  ·exact r3.2.2.2.2 t
  ·exact .junk
 have r4 := r3.addObj f3 hob
 obtain ⟨W1, hW1⟩ : ∃ W1, W1 = (w.alloc (.deferred (some []))).alloc (.loop rec) := ⟨_, rfl⟩
 cases hgv with
 | func hl' hr' =>
  rename_i vs
  obtain ⟨fn', h1, h2, h3⟩ := hca
  have hargs : #[Value.func (.yield l) #[] #[]] ++ vs.toArray = (Value.func (.yield l) #[] #[] :: vs).toArray := Array.ext' (by simp)
  refine ⟨l, [{ target := .collected w.heap.size, args := #[] }], W1, { target := .fn (.func gf) vs.toArray, args := #[.func (.yield l) #[] #[]] }, W1, gf, #[.func (.yield l) #[] #[]] ++ vs.toArray, W1, by rw [hl, hW1, hrec]; exact run_enterLoop_outer _ _ _ _ _, ?_, fun _ _ => trivial, ?_, fun hh => (by cases hh), ?_⟩
  ·simp only [resolve, rangeCall, hv, Deferred.ofValue, Sem.run_bind, Sem.run_pure, Result.andThen_ok]
   simp [go_sem]
  ·simp only [invoke, callFunc, Sem.run_bind, Sem.run_pure, Result.andThen_ok, run_program, h1, h2, h3]
   simp
  ·rw [← hD, hargs, hW1]
   have hnl' := AV.noLs_iff.1 hnl
   have hle : Le g s.σ.toks w { g with K := fun b => g.K b ∨ b = D, io := g.io ++ [l] } (s.σ.toks) ((w.alloc (.deferred (some []))).alloc (.loop rec)) := by
    have e1 := (r.2.1.alloc (.deferred (some []))).2
    have e2 := (r2.2.1.alloc (.loop rec)).2
    exact (e1.trans le2).trans (e2.trans (r3.2.1.addObj f3 hob).2)
   refine CallsIn.mono (F := wF none) (show CallsIn Fence.wide (0 - 1) P gf _ _ _ from callsIn_wide.2 (h l _ _ (Value.func (.yield l) #[] #[] :: vs) r4.2.1.toCallee (by simp [hl']) (fun i x v hx hv => ?_))) ?_
   ·cases i with
    | zero => simp at hx hv; subst hx; subst hv; exact .func (vs := []) rfl (fun i x v hx hv => by simp at hx)
    | succ i =>
     simp only [List.getElem?_cons_succ] at hx hv
     exact ((hr' i x v hx hv).mono hle (fun _ _ h => h)).toCallee (hnl' x (List.mem_of_getElem? hx)) _ _
   ·rintro e w' ⟨v, rr, σ', g', rfl, ⟨st, pe, T', M', ps', asg', body', ho, hst, hk⟩, hinv, hext, hra⟩
    obtain ⟨i1, le1⟩ := r4.2.1.fromCallee hinv hext
    have r5 := r4.later (σ' := σ') (L' := s.L) le1 (fun _ _ h => h) i1 rfl hext.gl (fun b hb => hext.blk b (.inl hb)) hext.size hext.os hext.tape hext.output
    have hio : g'.io[s.σ.objs.length]? = some l := by
     refine hext.le.io _ _ ?_
     show (g.io ++ [l])[s.σ.objs.length]? = some l
     rw [← r.2.1.lio]; simp
    obtain ⟨_, rc, n1, n2, n3, n4⟩ := r5.setRec (s := { s with σ := σ' }) hio ho
    have hend := run_endLoop (P := P) n1 (by rw [n2]; exact hst)
    rw [n3] at hend
    have r6 := n4 .exhausted pe
    refine ⟨pe, _, hend, ?_⟩
    cases pe with
    | none => exact ⟨_, hk, _, r6⟩
    | some c => exact hk g0 w0 _ _ ⟨_, r6⟩

structure WeakJ (s s2 : St) : Prop where
 σ : s2.σ = s.σ
 L : s2.L = s.L
 T : ∀ p, p ∈ s2.T → WA (get s.T p.1) p.2

theorem yno {T T2 : List (Nat × AV)} {a : Act} (h : ∀ t, RA g tk w (get T t) (a.tmps.getD t undef)) (hw : ∀ p, p ∈ T2 → WA (get T p.1) p.2) : ∀ t, RA g tk w (get T2 t) (a.tmps.getD t undef) := by
 intro t
 induction T2 with
 | nil => exact .junk
 | cons q r ih =>
  obtain ⟨d, v⟩ := q
  simp only [get]
  by_cases hd : d = t
  ·subst hd
   rw [if_pos rfl]
   exact (h d).wa (hw (d, v) (by simp))
  ·rw [if_neg hd]
   exact ih (fun p hp => hw p (by simp [hp]))

theorem WeakJ.rel {s2 : St} (h : WeakJ s s2) (r : RelG g0 σ0 w0 N g s a w) : RelG g0 σ0 w0 N g s2 a w := by
 obtain ⟨T2, L2, σ2⟩ := s2
 obtain ⟨h1, h2, h3⟩ := h
 simp only at h1 h2 h3
 subst h1 h2
 exact ⟨r.1, r.2.1, r.2.2.1, r.2.2.2.1, yno r.2.2.2.2 h3⟩

def ype {ι : Type} (S : ι → St) (I : ι → Prop) (μ : ι → Nat) (i : ι) (s' : St) : Prop := ∃ j, I j ∧ μ j < μ i ∧ WeakJ s' (S j)

theorem yhP {c : Code} {Q : Exit → St → Prop} {ι : Type} (S : ι → St) (I : ι → Prop) (μ : ι → Nat) (i0 : ι) (hi0 : I i0) (h0 : WeakJ s (S i0))
  (round : ∀ i, I i → AWpR ρ P σ0 N c (Then (ype S I μ i) Q) (S i)) : AWpR ρ P σ0 N (.loop c) Q s := by
 rintro g0 w0 a w ⟨g, r⟩ b k cs hro hb hr
 have key : ∀ n i, μ i = n → I i → ∀ a w, Rel g0 σ0 w0 N (S i) a w →
   ∃ e a' w', lift g0 σ0 w0 N Q e a' w' ∧ ArrivesIn (Machine.fenced P (wF ρ)) P (lone (b.atR a (.code c :: .inLoop c :: k)) cs w) b k cs e a' w' := by
  intro n
  induction n using Nat.strongRecOn with
  | _ n ih =>
   intro i hn hI a w r
   obtain ⟨e, a₁, w₁, ⟨s₁, hq, r₁⟩, harr⟩ := round i hI g0 w0 a w r b (.inLoop c :: k) cs hro hb hr
   cases e with
   | normal =>
    obtain ⟨j, hj, hlt, hw⟩ := hq
    obtain ⟨g₁, r₁⟩ := r₁
    obtain ⟨e₂, a₂, w₂, hq₂, harr₂⟩ := ih (μ j) (hn ▸ hlt) j rfl hj a₁ w₁ ⟨_, hw.rel r₁⟩
    exact ⟨e₂, a₂, w₂, hq₂, .of_steps (StepsIn.trans harr (.one (fenced_calm hb hr rfl) stepR_inLoop)) harr₂⟩
   | exit id => exact ⟨_, a₁, w₁, ⟨s₁, hq, r₁⟩, .pass (x := .inLoop c) rfl (fun _ _ => .inl (by simp)) harr⟩
   | goto l => exact ⟨_, a₁, w₁, ⟨s₁, hq, r₁⟩, .pass (x := .inLoop c) rfl (fun _ _ => .inl (by simp)) harr⟩
   | ret => exact ⟨_, a₁, w₁, ⟨s₁, hq, r₁⟩, .pass (x := .inLoop c) rfl (fun _ _ => .inl (by simp)) harr⟩
   | panic ch => exact ⟨_, a₁, w₁, ⟨s₁, hq, r₁⟩, .pass (x := .inLoop c) rfl (fun _ _ => .inl (by simp)) harr⟩
   | outgrown => exact ⟨_, a₁, w₁, ⟨s₁, hq, r₁⟩, .pass (x := .inLoop c) rfl (fun _ _ => .inl (by simp)) harr⟩
 obtain ⟨e, a', w', hq, harr⟩ := key _ i0 rfl hi0 a w ⟨_, h0.rel r⟩
 exact ⟨e, a', w', hq, .of_steps (.one (fenced_calm hb hr rfl) stepR_loop) harr⟩

theorem ycx {c : Code} {Q : Exit → St → Prop} {ι : Type} (keep : List Nat) (m : ι → List (Nat × AV)) (σf : ι → Store) (I : ι → Prop) (μ : ι → Nat) (i0 : ι) (hi0 : I i0) (h0 : WeakJ s (YI s keep (m i0) s.L (σf i0)))
  (round : ∀ i, I i → AWpR ρ P σ0 N c (Then (ype (fun i => YI s keep (m i) s.L (σf i)) I μ i) Q) (YI s keep (m i) s.L (σf i))) : AWpR ρ P σ0 N (.loop c) Q s :=
 yhP (fun i => YI s keep (m i) s.L (σf i)) I μ i0 hi0 h0 round

attribute [go_sem] ycG Store.rec_
end
end Go.Aw

namespace Go.Aw
open Go
mutual
def AV.lclo (nl : Nat) : AV → Bool
 | .lptr i _ => decide (i < nl)
 | .func _ cs => AV.lclos nl cs
 | .agg cs => AV.lclos nl cs
 | .tuple cs => AV.lclos nl cs
 | .ifc _ x => AV.lclo nl x
 | .vs _ _ cs => AV.lclos nl cs
 | .vp cs => AV.lclos nl cs
 | _ => true
def AV.lclos (nl : Nat) : List AV → Bool
 | [] => true
 | x :: r => AV.lclo nl x && AV.lclos nl r
end
theorem AV.lclos_iff {nl : Nat} : ∀ {l : List AV}, AV.lclos nl l = true ↔ ∀ x, x ∈ l → x.lclo nl = true
 | [] => by simp [AV.lclos]
 | x :: r => by simp [AV.lclos, AV.lclos_iff (l := r)]
mutual
theorem ybd (nl : Nat) : ∀ x : AV, x.noL = true → x.lclo nl = true
 | .lptr .., h => by simp [AV.noL] at h
 | .func _ cs, h => by simp only [AV.noL] at h; simp only [AV.lclo]; exact Zr nl cs h
 | .agg cs, h => by simp only [AV.noL] at h; simp only [AV.lclo]; exact Zr nl cs h
 | .tuple cs, h => by simp only [AV.noL] at h; simp only [AV.lclo]; exact Zr nl cs h
 | .pv _, _ => rfl
 | .full _, _ => rfl
 | .acc .., _ => rfl
 | .ptr .., _ => rfl
 | .map _, _ => rfl
 | .scr .., _ => rfl
 | .sl .., _ => rfl
 | .ifc _ x, h => by simp only [AV.noL] at h; simp only [AV.lclo]; exact ybd nl x h
 | .vs _ _ cs, h => by simp only [AV.noL] at h; simp only [AV.lclo]; exact Zr nl cs h
 | .vp cs, h => by simp only [AV.noL] at h; simp only [AV.lclo]; exact Zr nl cs h
 | .junk, _ => rfl
theorem Zr (nl : Nat) : ∀ l : List AV, AV.noLs l = true → AV.lclos nl l = true
 | [], _ => rfl
 | x :: l, h => by
  simp only [AV.noLs, Bool.and_eq_true] at h
  simp only [AV.lclos, Bool.and_eq_true]
  exact ⟨ybd nl x h.1, Zr nl l h.2⟩
end
section
variable {ρ : Option Nat} {P : Program} {g0 g : Ghost} {σ0 σ : Store} {w0 w : World} {N : Nat} {s : St} {a : Act} {tk : List Tok}
theorem ydR {nl : Nat} {x : AV} {v : Value} (h : RA g tk w x v) : x.lclo nl = true → x.clo g.io.length tk.length nl = true := by
 have key : ∀ (cs : List AV) (vs : List Value), vs.length = cs.length → (∀ (i : Nat) x v, cs[i]? = some x → vs[i]? = some v → x.lclo nl = true → x.clo g.io.length tk.length nl = true) → AV.lclos nl cs = true → AV.clos g.io.length tk.length nl cs = true := by
  intro cs vs hl ih hc
  refine AV.clos_iff.2 fun x hx => ?_
  obtain ⟨i, hi⟩ := List.getElem?_of_mem hx
  have hlt : i < vs.length := by rw [hl]; exact (List.getElem?_eq_some_iff.1 hi).1
  exact ih i x vs[i] hi (by simp) (AV.lclos_iff.1 hc x hx)
 induction h with
 | pv => exact fun _ => rfl
 | full => exact fun _ => rfl
 | acc _ ht _ _ _ => intro _; simp only [AV.clo, decide_eq_true_eq]; exact (List.getElem?_eq_some_iff.1 ht).1
 | ptr h => intro _; simp only [AV.clo, decide_eq_true_eq]; exact (List.getElem?_eq_some_iff.1 h).1
 | lptr h => intro hc; simpa [AV.clo, AV.lclo] using hc
 | map h => intro _; simp only [AV.clo, decide_eq_true_eq]; exact (List.getElem?_eq_some_iff.1 h).1
 | func hl _ ih => intro hc; simp only [AV.clo]; exact key _ _ hl (fun i x v hx hv => ih i x v hx hv) (by simpa [AV.lclo] using hc)
 | agg hl _ _ ih => intro hc; simp only [AV.clo]; exact key _ _ hl (fun i x v hx hv => ih i x v hx hv) (by simpa [AV.lclo] using hc)
 | tuple hl _ ih => intro hc; simp only [AV.clo]; exact key _ _ hl (fun i x v hx hv => ih i x v hx hv) (by simpa [AV.lclo] using hc)
 | scr h _ _ => intro _; simp only [AV.clo, Bool.or_eq_true, decide_eq_true_eq]; exact .inl (List.getElem?_eq_some_iff.1 h).1
 | scrnil => intro _; simp [AV.clo]
 | sl h _ => intro _; simp only [AV.clo, decide_eq_true_eq]; exact (List.getElem?_eq_some_iff.1 h).1
 | ifc _ ih => exact fun hc => ih hc
 | @vs kd _ _ _ _ _ hl _ _ _ _ hk ih =>
  intro hc
  simp only [AV.clo, Bool.and_eq_true]
  refine ⟨?_, key _ _ hl (fun i x v hx hv => ih i x v hx hv) (by simpa [AV.lclo] using hc)⟩
  cases kd with
  | tok k => obtain ⟨t, h1, _⟩ := hk k rfl; simp only [VK.clo, decide_eq_true_eq]; exact (List.getElem?_eq_some_iff.1 h1).1
  | _ => rfl
 | vp hl _ _ ih => intro hc; simp only [AV.clo]; exact key _ _ hl (fun i x v hx hv => ih i x v hx hv) (by simpa [AV.lclo] using hc)
 | junk => exact fun _ => rfl
structure WeakJL (nl : Nat) (s s2 : St) : Prop where
 σ : s2.σ = s.σ
 L : s2.L = s.L.take nl
 T : ∀ p, p ∈ s2.T → WA (get s.T p.1) p.2 ∧ p.2.lclo nl = true
 cL : ∀ cs, cs ∈ s2.L → AV.lclos nl cs = true
theorem WeakJL.rel {nl : Nat} {s2 : St} (h : WeakJL nl s s2) (r : RelG g0 σ0 w0 N g s a w) : Rel g0 σ0 w0 N s2 a w := by
 obtain ⟨T2, L2, σ2⟩ := s2
 obtain ⟨h1, h2, h3, h4⟩ := h
 simp only at h1 h2 h3 h4
 subst h1 h2
 have hio := r.2.1.lio
 have hobj : ∀ ob, ob ∈ s.σ.objs.take s.σ.objs.length → ob.clo s.σ.objs.length s.σ.toks.length nl = true := by
  intro ob hob
  rw [List.take_length] at hob
  obtain ⟨o, ho⟩ := List.getElem?_of_mem hob
  have hlt : o < g.io.length := by rw [hio]; exact (List.getElem?_eq_some_iff.1 ho).1
  have hR := r.2.1.objs o ob g.io[o] ho (by simp)
  rw [← hio]
  cases ob with
  | map ks vs => rfl
  | row e sz cap xs => rfl
  | box cs =>
   obtain ⟨hn, vs, e, k1, k2, k3, k4⟩ := hR
   refine AV.clos_iff.2 fun x hx => ?_
   obtain ⟨i, hi⟩ := List.getElem?_of_mem hx
   have hl : i < vs.length := by rw [k2]; exact (List.getElem?_eq_some_iff.1 hi).1
   exact ydR (k4 i x vs[i] hi (by simp)) (ybd nl x (hn x hx))
  | arr cs =>
   obtain ⟨hn, vs, rest, e, k1, k2, k3, k4⟩ := hR
   refine AV.clos_iff.2 fun x hx => ?_
   obtain ⟨i, hi⟩ := List.getElem?_of_mem hx
   have hl : i < vs.length := by rw [k2]; exact (List.getElem?_eq_some_iff.1 hi).1
   exact ydR (k4 i x vs[i] hi (by simp)) (ybd nl x (hn x hx))
  | loop l st pe T N ps assign body =>
   obtain ⟨⟨_, hn, hnd⟩, fn, tmps, D, k1, k2, k3⟩ := hR
   refine AV.clos_iff.2 fun x hx => ?_
   obtain ⟨p, hp, rfl⟩ := List.mem_map.1 hx
   have := k3 p.1
   rw [ybG hnd hp] at this
   exact ydR this (ybd nl _ (hn _ hx))
 have hL : ∀ cs, cs ∈ s.L.take nl → AV.clos s.σ.objs.length s.σ.toks.length nl cs = true := by
  intro cs hcs
  obtain ⟨i, hi⟩ := List.getElem?_of_mem hcs
  have hin : i < nl := by have := (List.getElem?_eq_some_iff.1 hi).1; rw [List.length_take] at this; omega
  rw [zM hin] at hi
  have hlt : i < g.lam.length := by rw [r.2.1.llam]; exact (List.getElem?_eq_some_iff.1 hi).1
  obtain ⟨vs, e, k1, k2, k3, k4⟩ := r.2.1.priv i cs g.lam[i] hi (by simp)
  rw [← hio]
  refine AV.clos_iff.2 fun x hx => ?_
  obtain ⟨j, hj⟩ := List.getElem?_of_mem hx
  have hl : j < vs.length := by rw [k2]; exact (List.getElem?_eq_some_iff.1 hj).1
  exact ydR (k4 j x vs[j] hj (by simp)) (AV.lclos_iff.1 (h4 cs hcs) x hx)
 have hlo : σ0.objs.length ≤ s.σ.objs.length := by
  rw [← hio, ← r.1.io0]
  by_cases hz : g0.io.length = 0
  ·omega
  ·have := r.1.le.io (g0.io.length - 1) g0.io[g0.io.length - 1] (by simp)
   have := (List.getElem?_eq_some_iff.1 this).1
   omega
 have hlt : σ0.toks.length ≤ s.σ.toks.length := by
  by_cases hz : σ0.toks.length = 0
  ·omega
  ·obtain ⟨t', ht', _⟩ := r.1.le.tok (σ0.toks.length - 1) σ0.toks[σ0.toks.length - 1] (by simp)
   have := (List.getElem?_eq_some_iff.1 ht').1
   omega
 have hcut : s.σ.cut s.σ.objs.length s.σ.toks.length = s.σ := by simp [Store.cut]
 have i1 := r.2.1.cut (no := s.σ.objs.length) (nt := s.σ.toks.length) (nl := nl) hobj hL
 have e1 := r.1.cut (nl := nl) hlo hlt
 rw [hcut] at i1 e1
 refine ⟨_, e1, i1, r.2.2.1, r.2.2.2.1, fun t => ?_⟩
 have hra := yno r.2.2.2.2 (fun p hp => (h3 p hp).1) t
 have hcl : (get T2 t).lclo nl = true := by
  rcases yei (T := T2) (t := t) with e | ⟨p, hp, e⟩
  ·rw [e]; rfl
  ·rw [e]; exact (h3 p hp).2
 have := hra.cut (no := s.σ.objs.length) (nt := s.σ.toks.length) (nl := nl) (by rw [← hio]; exact ydR hra hcl)
 rw [List.take_length] at this
 exact this
def yns {ι : Type} (nl : Nat) (S : ι → St) (I : ι → Prop) (μ : ι → Nat) (i : ι) (s' : St) : Prop := ∃ j, I j ∧ μ j < μ i ∧ WeakJL nl s' (S j)
theorem ygu {c : Code} {Q : Exit → St → Prop} {ι : Type} (nl : Nat) (S : ι → St) (I : ι → Prop) (μ : ι → Nat) (i0 : ι) (hi0 : I i0) (h0 : WeakJL nl s (S i0))
  (round : ∀ i, I i → AWpR ρ P σ0 N c (Then (yns nl S I μ i) Q) (S i)) : AWpR ρ P σ0 N (.loop c) Q s := by
 rintro g0 w0 a w ⟨g, r⟩ b k cs hro hb hr
 have key : ∀ n i, μ i = n → I i → ∀ a w, Rel g0 σ0 w0 N (S i) a w →
   ∃ e a' w', lift g0 σ0 w0 N Q e a' w' ∧ ArrivesIn (Machine.fenced P (wF ρ)) P (lone (b.atR a (.code c :: .inLoop c :: k)) cs w) b k cs e a' w' := by
  intro n
  induction n using Nat.strongRecOn with
  | _ n ih =>
   intro i hn hI a w r
   obtain ⟨e, a₁, w₁, ⟨s₁, hq, r₁⟩, harr⟩ := round i hI g0 w0 a w r b (.inLoop c :: k) cs hro hb hr
   cases e with
   | normal =>
    obtain ⟨j, hj, hlt, hw⟩ := hq
    obtain ⟨g₁, r₁⟩ := r₁
    obtain ⟨e₂, a₂, w₂, hq₂, harr₂⟩ := ih (μ j) (hn ▸ hlt) j rfl hj a₁ w₁ (hw.rel r₁)
    exact ⟨e₂, a₂, w₂, hq₂, .of_steps (StepsIn.trans harr (.one (fenced_calm hb hr rfl) stepR_inLoop)) harr₂⟩
   | exit id => exact ⟨_, a₁, w₁, ⟨s₁, hq, r₁⟩, .pass (x := .inLoop c) rfl (fun _ _ => .inl (by simp)) harr⟩
   | goto l => exact ⟨_, a₁, w₁, ⟨s₁, hq, r₁⟩, .pass (x := .inLoop c) rfl (fun _ _ => .inl (by simp)) harr⟩
   | ret => exact ⟨_, a₁, w₁, ⟨s₁, hq, r₁⟩, .pass (x := .inLoop c) rfl (fun _ _ => .inl (by simp)) harr⟩
   | panic ch => exact ⟨_, a₁, w₁, ⟨s₁, hq, r₁⟩, .pass (x := .inLoop c) rfl (fun _ _ => .inl (by simp)) harr⟩
   | outgrown => exact ⟨_, a₁, w₁, ⟨s₁, hq, r₁⟩, .pass (x := .inLoop c) rfl (fun _ _ => .inl (by simp)) harr⟩
 obtain ⟨e, a', w', hq, harr⟩ := key _ i0 rfl hi0 a w (h0.rel r)
 exact ⟨e, a', w', hq, .of_steps (.one (fenced_calm hb hr rfl) stepR_loop) harr⟩
theorem yN {c : Code} {Q : Exit → St → Prop} {ι : Type} (nl : Nat) (keep : List Nat) (m : ι → List (Nat × AV)) (σf : ι → Store) (I : ι → Prop) (μ : ι → Nat) (i0 : ι) (hi0 : I i0) (h0 : WeakJL nl s (YI s keep (m i0) s.L (σf i0)))
  (round : ∀ i, I i → AWpR ρ P σ0 N c (Then (yns nl (fun i => YI s keep (m i) s.L (σf i)) I μ i) Q) (YI s keep (m i) s.L (σf i))) : AWpR ρ P σ0 N (.loop c) Q s :=
 ygu nl (fun i => YI s keep (m i) s.L (σf i)) I μ i0 hi0 h0 round
attribute [go_sem] AV.lclo AV.lclos
end
end Go.Aw

namespace Go.Aw
open Go
def swr (d : D) : Option (List Int) := scata (fun d rs => if (yb d == 0) = true then some [] else rs.findSome? fun q => q.2.map (q.1.p ++ ·)) d
theorem yb8 (d : D) : swr d = if (yb d == 0) = true then some [] else (subs d).findSome? fun q => (swr q.2).map (q.1.p ++ ·) := by
 show scata (β := Option (List Int)) _ d = _
 rw [ZB]
 simp only [List.findSome?_map]; rfl
theorem yby (d : D) : Zs d = (swr d).isNone := by
 induction d using D.indS with
 | h d ih =>
  rw [ynF, yb8]
  by_cases h0 : yb d = 0
  ·rw [h0]; rfl
  ·rw [if_neg (by simpa using h0)]
   have hne : (yb d != 0) = true := by simpa using h0
   rw [hne, Bool.true_and, Bool.eq_iff_iff]
   rw [List.all_eq_true, Option.isNone_iff_eq_none, List.findSome?_eq_none_iff]
   refine forall_congr' fun q => forall_congr' fun hq => ?_
   rw [ih q hq]
   cases swr q.2 <;> simp
def NoWr (d : D) (i : Nat) : Prop := ∀ (j : Nat) (q : Sub × D), j < i → (subs d)[j]? = some q → swr q.2 = none
theorem NoWr.zero {d : D} : NoWr d 0 := fun _ _ h => by omega
theorem NoWr.succ {d : D} {i : Nat} {q : Sub × D} (h : NoWr d i) (hq : (subs d)[i]? = some q) (hn : swr q.2 = none) : NoWr d (i + 1) := by
 intro j q2 hj hq2
 by_cases e : j = i
 ·subst e; rw [hq, Option.some.injEq] at hq2; subst hq2; exact hn
 ·exact h j q2 (by omega) hq2
theorem NoWr.all {d : D} (h : NoWr d (subs d).length) (hk : yb d ≠ 0) : swr d = none := by
 rw [yb8, if_neg (by simpa using hk), List.findSome?_eq_none_iff]
 intro q hq
 obtain ⟨i, hi, rfl⟩ := List.getElem_of_mem hq
 rw [h i _ hi (by rw [List.getElem?_eq_getElem hi])]; rfl
theorem NoWr.found {d : D} {i : Nat} {q : Sub × D} {p : List Int} (h : NoWr d i) (hk : yb d ≠ 0) (hq : (subs d)[i]? = some q) (hp : swr q.2 = some p) : swr d = some (q.1.p ++ p) := by
 rw [yb8, if_neg (by simpa using hk), List.findSome?_eq_some_iff]
 obtain ⟨hi, he⟩ := List.getElem?_eq_some_iff.1 hq
 refine ⟨(subs d).take i, q, (subs d).drop (i + 1), ?_, by rw [hp]; rfl, ?_⟩
 ·rw [← he, List.getElem_cons_drop, List.take_append_drop]
 ·intro q2 h2
  obtain ⟨j, hj, rfl⟩ := List.getElem_of_mem h2
  rw [List.length_take] at hj
  rw [List.getElem_take, h j _ (by omega) (List.getElem?_eq_getElem (by omega))]; rfl
theorem Yc {d : D} {q : Sub × D} (h : q ∈ subs d) : 1 ≤ q.1.p.length ∧ q.1.p.length ≤ 3 := by
 have hm : ∀ (f : Nat → D → Sub × D) (l : List D), (∀ i x, 1 ≤ (f i x).1.p.length ∧ (f i x).1.p.length ≤ 3) → q ∈ mapI f l → 1 ≤ q.1.p.length ∧ q.1.p.length ≤ 3 := by
  intro f l hf hq
  obtain ⟨i, x, hx, rfl⟩ := YL hq
  exact hf i x
 by_cases h4 : yb d = 4 ∨ yb d = 8
 ·rw [zX h4] at h; exact hm _ _ (fun _ _ => ⟨by simp [sub0, sub1, subR], by simp [sub0, sub1, subR]⟩) h
 by_cases h5 : yb d = 5 ∨ yb d = 9
 ·rw [yU h5] at h; rw [List.mem_singleton.1 h]; exact ⟨by simp [subL], by simp [subL]⟩
 by_cases h6 : yb d = 6
 ·rw [yM h6] at h
  simp only [List.mem_cons, List.not_mem_nil, or_false] at h
  rcases h with rfl | rfl <;> exact ⟨by simp [subL], by simp [subL]⟩
 by_cases h7 : yb d = 7
 ·rw [zd h7, List.mem_append, List.mem_singleton] at h
  rcases h with h | rfl
  ·exact hm _ _ (fun _ _ => ⟨by simp [sub0, sub1, subR], by simp [sub0, sub1, subR]⟩) h
  ·exact ⟨by simp [subL], by simp [subL]⟩
 by_cases h10 : yb d = 10
 ·rw [Yr h10] at h; exact hm _ _ (fun _ _ => ⟨by simp [sub0, sub1, subR], by simp [sub0, sub1, subR]⟩) h
 ·exfalso
  have hs : subs d = [] := Yb (by cases shape d <;> omega)
  rw [hs] at h; simp at h
theorem yko : ∀ (d : D) (p : List Int), swr d = some p → p.length ≤ 3 * d.size := by
 intro d
 induction d using D.indS with
 | h d ih =>
  intro p hp
  rw [yb8] at hp
  split at hp
  ·injection hp with hp; subst hp; simp
  ·obtain ⟨q, hq, he⟩ := List.exists_of_findSome?_eq_some hp
   cases hs : swr q.2 with
   | none => rw [hs] at he; cases he
   | some p2 =>
    rw [hs] at he
    simp only [Option.map_some, Option.some.injEq] at he
    subst he
    have h1 := ih q hq p2 hs
    have h2 := (Yc hq).2
    have h3 := Ys hq
    rw [List.length_append]; omega
def wPV (p : List Int) : PV := if p = [] then .nils else .slice (p.map (.int .i64))
theorem ynG {p q : List Int} (h : 1 ≤ p.length) : wPV (p ++ q) = .slice ((p ++ q).map (.int .i64)) := by
 unfold wPV
 rw [if_neg (by intro e; rw [List.append_eq_nil_iff] at e; rw [e.1] at h; simp at h)]
def wpath (d : D) : PV := match swr d with
 | some p => wPV p
 | none => .nils
theorem ZK {d : D} {p : List Int} (h : swr d = some p) : wpath d = wPV p ∧ Zs d = false := by
 refine ⟨by unfold wpath; rw [h], by rw [yby, h]; rfl⟩
theorem ygw {d : D} (h : swr d = none) : wpath d = .nils ∧ Zs d = true := by
 refine ⟨by unfold wpath; rw [h], by rw [yby, h]; rfl⟩
theorem ylD {d : D} (h : Zs d = false) : ∃ p, swr d = some p := by
 rw [yby] at h
 cases hs : swr d with
 | some p => exact ⟨p, rfl⟩
 | none => rw [hs] at h; cases h
theorem ylB {d : D} (h : Zs d = true) : swr d = none := by rw [yby] at h; exact Option.isNone_iff_eq_none.1 h
theorem Zi (p : List Int) : (wPV p).cells = [wPV p] := by unfold wPV; split <;> rfl
theorem ycg (p : List Int) : PV.nrm (wPV p) = wPV p := by unfold wPV; split <;> rfl
theorem Yo (d : D) : (wpath d).cells = [wpath d] := by unfold wpath; split; exact Zi _; rfl
end Go.Aw

namespace Go.Aw
open Go
structure Cfg where
 P : Program
 ty : TyT
 sh : FuncId → List Tmp
 dm : FuncId → Nat → Nat × List Nat × Bool
 ca : FuncId → Bool
 orc : FuncId → List AV → Option AV

inductive Gate where
 | on | off | bad

def Z4 (ops : Array Oper) (o : Oper) (T : List (Nat × AV)) : Gate :=
 match o.guard with
 | none => .on
 | some _ => match y9 ops o with
  | some (d, want) => match Aw.get T d with
   | .pv (.bool b) => match b, want with
    | true, true => .on
    | false, false => .on
    | _, _ => .off
   | .tuple [] => .off
   | _ => .bad
  | none => .bad

def yia (s : St) (o : Oper) : Option (FuncId × List AV) :=
 match o.op with
 | .call c => match c.callee with
  | .value fo => match ev s fo with
   | .func (.func f) caps => some (f, c.args.toList.map (ev s) ++ caps)
   | _ => none
  | _ => none
 | _ => none

def ya7 (x : AV) : AV := match toPV x with
 | some p => .pv p
 | none => x
def ycp : AV → AV
 | .tuple xs => .tuple (xs.map ya7)
 | x => ya7 x
def cloT (no nt : Nat) : AV → Bool
 | .tuple xs => AV.clos no nt 0 xs
 | x => x.clo no nt 0

def finR (σ : Store) (r : AV) (σ' : Store) : AV × Store :=
 match cloT σ.objs.length σ.toks.length (ycp r) && (σ'.objs.take σ.objs.length).all (AObj.clo σ.objs.length σ.toks.length 0) with
 | true => (ycp r, { σ'.cut σ.objs.length σ.toks.length with gl := σ.gl })
 | false => (r, { σ' with gl := σ.gl })

def ysu : Exit → Bool
 | .normal => true
 | .ret => true
 | _ => false

mutual
def evF (C : Cfg) : Nat → FuncId → List AV → Store → Option (AV × Store)
 | 0, _, _, _ => none
 | n + 1, f, args, σ => match C.orc f args with
  | some r => some (r, σ)
  | none => match C.P.funcs[f]? with
   | some fn => match fn.body with
    | some c => match decide (args.length ≤ fn.ntmps) with
     | true => match evC C n f fn.ntmps c ⟨argT 0 args, [], σ⟩ with
      | some (e, s) => match ysu e with
       | true => match Y4 C.ty s fn.results.toList with
        | some l => match AV.noLs l with
         | true => some (finR σ (yaz l) s.σ)
         | false => none
        | none => none
       | false => none
      | none => none
     | false => none
    | none => none
   | none => none
def evC (C : Cfg) : Nat → FuncId → Nat → Code → St → Option (Exit × St)
 | 0, _, _, _, _ => none
 | n + 1, f, N, c, s => match c with
  | .skip => some (.normal, s)
  | .ret => some (.ret, s)
  | .exit id => some (.exit id, s)
  | .seq x y => match evC C n f N x s with
   | some (.normal, s') => evC C n f N y s'
   | r => r
  | .block id c => match evC C n f N c s with
   | some (.exit id', s') => match Nat.beq id' id with
    | true => some (.normal, s')
    | false => some (.exit id', s')
   | r => r
  | .loop c => match evC C n f N c s with
   | some (.normal, s') => evC C n f N (.loop c) s'
   | r => r
  | .cond c x y => match ev s c with
   | .pv (.bool true) => evC C n f N x s
   | .pv (.bool false) => evC C n f N y s
   | _ => none
  | .region _ ops false => match evO C n f N ops ops.toList s with
   | some s' => some (.normal, s')
   | none => none
  | .region id ops true => match Y5 ops (C.dm f id).1 && decide ((C.dm f id).1 < ops.size) with
   | true => match evU C n f N (yel (C.dm f id).2.1 (C.dm f id).2.2 s) ops (ops.toList.take (C.dm f id).1) s with
    | some s' => match evO C n f N ops (ops.toList.drop (C.dm f id).1) s' with
     | some s' => some (.normal, s')
     | none => none
    | none => none
   | false => none
  | _ => none
def evO (C : Cfg) : Nat → FuncId → Nat → Array Oper → List Oper → St → Option St
 | 0, _, _, _, _, _ => none
 | _ + 1, _, _, _, [], s => some s
 | n + 1, f, N, ops, o :: os, s => match yJ N o.dst with
  | true => match Z4 ops o s.T with
   | .bad => none
   | .off => evO C n f N ops os (s.put o.dst (.tuple []))
   | .on => match yia s o with
    | some (g, args) => match C.ca g && AV.noLs args with
     | true => match evF C n g args s.σ with
      | some (r, σ') => evO C n f N ops os (({ s with σ := σ' } : St).put o.dst r)
      | none => none
     | false => none
    | none => match Zk C.ty (C.sh f) s o with
     | some s' => evO C n f N ops os s'
     | none => none
  | false => none
def evU (C : Cfg) : Nat → FuncId → Nat → View → Array Oper → List Oper → St → Option St
 | 0, _, _, _, _, _, _ => none
 | _ + 1, _, _, _, _, [], s => some s
 | n + 1, f, N, V, ops, o :: os, s => match yJ N o.dst with
  | true => match Z4 ops o s.T with
   | .bad => none
   | .off => evU C n f N V ops os ⟨putT s.T o.dst (.tuple []), s.L, s.σ⟩
   | .on => match YA C.ty (V.st s.T) o with
    | some (.call g args) => match C.ca g && AV.noLs args && V.objs.isEmpty with
     | true => match evF C n g args s.σ with
      | some (r, σ') => evU C n f N V ops os ⟨putT s.T o.dst r, s.L, σ'⟩
      | none => none
     | false => none
    | some e => match ydF V e with
     | true => match zh s o.dst e with
      | some s' => evU C n f N V ops os s'
      | none => none
     | false => none
    | none => none
  | false => none
end
section
variable {P : Program} {ty : TyT} {σ0 : Store} {N : Nat} {s s' : St} {o : Oper} {ops : Array Oper} {os : List Oper} {K : St → Prop} {V : View} {Q : Exit → St → Prop} {c : Code}
theorem yrj (h : s.σ.gl = σ0.gl → AWp P σ0 N c Q s) : AWp P σ0 N c Q s := by
 rintro g0 w0 a w ⟨g, r⟩
 exact h r.1.gl g0 w0 a w ⟨g, r⟩

theorem yso (h : s.σ.gl = σ0.gl → AOpsL P σ0 N ops os K s) : AOpsL P σ0 N ops os K s := by
 rintro l hl g0 w0 a w nx ⟨g, r⟩ hn
 exact h r.1.gl l hl g0 w0 a w nx ⟨g, r⟩ hn

theorem ykk (h : Z4 ops o s.T = .on) : o.guard = none ∨ ∃ d b, y9 ops o = some (d, b) ∧ get s.T d = .pv (.bool b) := by
 unfold Z4 at h
 split at h
 ·exact .inl ‹_›
 ·split at h
  ·rename_i d want hg
   split at h
   ·rename_i b hb
    split at h
    ·exact .inr ⟨d, true, hg, hb⟩
    ·exact .inr ⟨d, false, hg, hb⟩
    ·cases h
   ·cases h
   ·cases h
  ·cases h

theorem yiS {T : List (Nat × AV)} (h : Z4 ops o T = .off) : ∃ d b, y9 ops o = some (d, b) ∧ off (get T d) b = true := by
 unfold Z4 at h
 split at h
 ·cases h
 ·split at h
  ·rename_i d want hg
   split at h
   ·rename_i b hb
    split at h
    ·cases h
    ·cases h
    ·rename_i h1 h2
     refine ⟨d, want, hg, ?_⟩
     rw [hb]
     cases b <;> cases want <;> simp_all [off]
   ·rename_i hb
    exact ⟨d, want, hg, by rw [hb]; rfl⟩
   ·cases h
  ·cases h

theorem ypi (h : Z4 ops o s.T = .on) (hd : yJ N o.dst = true) (k : AOp P σ0 N o (AOpsL P σ0 N ops os K) s) : AOpsL P σ0 N ops (o :: os) K s := by
 rcases ykk h with hg | ⟨d, b, hg, hb⟩
 ·exact YC hg k
 ·exact ygT d b b hb rfl hg hd k

theorem yrb (h : Z4 ops o s.T = .off) (hd : yJ N o.dst = true) (k : AOpsL P σ0 N ops os K (s.put o.dst (.tuple []))) : AOpsL P σ0 N ops (o :: os) K s := by
 obtain ⟨d, b, hg, hb⟩ := yiS h
 intro l hl
 cases l with
 | nil => simp at hl
 | cons i l =>
  simp only [List.map_cons, List.cons.injEq] at hl
  exact yhn hl.1 hg hb hd (k l hl.2)

theorem yiB {e : Eff} (h : Z4 ops o s.T = .on) (he : YA ty (V.st s.T) o = some e) : GateEff ty V ops s.T o e := by
 rcases ykk h with hg | ⟨d, b, hg, hb⟩
 ·exact .plain hg he
 ·exact .yes hg hb he

theorem ymo {g : FuncId} {args : List AV} (h : yia s o = some (g, args)) : ∃ c fo caps, o.op = .call c ∧ c.callee = .value fo ∧ ev s fo = .func (.func g) caps ∧ args = c.args.toList.map (ev s) ++ caps := by
 unfold yia at h
 split at h
 ·rename_i c hc
  split at h
  ·rename_i fo hfo
   split at h
   ·rename_i f caps hf
    cases h
    exact ⟨c, fo, caps, hc, hfo, hf, rfl⟩
   ·cases h
  ·cases h
 ·cases h

theorem yhe {no nt : Nat} {x : AV} (h : (ya7 x).clo no nt 0 = true) : WV no nt 0 x (ya7 x) := by
 unfold ya7 at h ⊢
 split
 ·exact .pv ‹_›
 ·rename_i hx
  rw [hx] at h
  exact .same h

theorem yk0 {no nt : Nat} {r : AV} (h : cloT no nt (ycp r) = true) : WVt no nt 0 r (ycp r) := by
 cases r with
 | tuple xs =>
  simp only [ycp, cloT, WVt] at h ⊢
  induction xs with
  | nil => trivial
  | cons x xs ih =>
   simp only [List.map_cons, AV.clos, Bool.and_eq_true] at h
   exact ⟨yhe h.1, ih h.2⟩
 | _ =>
  simp only [ycp] at h ⊢
  have h2 : ∀ (y : AV), (∀ xs, y ≠ .tuple xs) → cloT no nt y = true → y.clo no nt 0 = true := by
   intro y hy hc
   unfold cloT at hc
   split at hc
   ·exact (hy _ rfl).elim
   ·exact hc
  have h3 : ∀ (x : AV), (∀ xs, x ≠ .tuple xs) → ∀ xs, ya7 x ≠ .tuple xs := by
   intro x hx xs
   unfold ya7
   split
   ·simp
   ·exact hx xs
  have := yhe (h2 _ (h3 _ (by simp)) h)
  unfold WVt
  split
  ·rename_i e1 e2; cases e1
  ·exact this
end
theorem ACalls.gl {P : Program} {f : FuncId} {args : List AV} {σ : Store} {R : AV → Store → Prop} (h : ACalls P f args σ R) : ACalls P f args σ fun r' s' => R r' s' ∧ s'.gl = σ.gl := by
 intro g' w cargs h1 h2 h3
 refine (h g' w cargs h1 h2 h3).mono ?_
 rintro e w' ⟨v, r1, σ1, g1, e1, e2, e3, e4, e5⟩
 exact ⟨v, r1, σ1, g1, e1, ⟨e2, e4.gl⟩, e3, e4, e5⟩

theorem yhN {s s' : St} {d : Option Tmp} {e : TypeId} {te : TyI} {x : AV} {ys : List PV} (h : zK s d e te x ys = some s') : s'.σ.gl = s.σ.gl := by
 unfold zK at h
 split at h
 ·split at h
  ·split at h
   ·split at h
    ·cases h; cases d <;> rfl
    ·cases h
   ·cases h
  ·split at h
   ·split at h
    ·cases h; cases d <;> rfl
    ·cases h
   ·cases h
 ·cases h

theorem yld {s s' : St} {d : Option Tmp} {e : Eff} (h : zh s d e = some s') : s'.σ.gl = s.σ.gl := by
 cases e with
 | pure x => simp only [zh, Option.some.injEq] at h; subst h; rfl
 | box cs => simp only [zh, Option.some.injEq] at h; subst h; rfl
 | append e te x ys =>
  simp only [zh] at h
  split at h
  ·rename_i s1 h1
   have := yhN h1
   cases h; exact this
  ·cases h
 | call => simp [zh] at h
 | path => simp [zh] at h
 | mk => simp only [zh, Option.some.injEq] at h; subst h; rfl
 | storeL i off ti ds =>
  simp only [zh] at h
  split at h
  ·split at h
   ·cases h; rfl
   ·cases h
  ·cases h

theorem yiO {C : Cfg} {n : Nat} {f : FuncId} {args : List AV} {σ σ' : Store} {r : AV} (h : evF C n f args σ = some (r, σ')) : σ'.gl = σ.gl := by
 cases n with
 | zero => simp [evF] at h
 | succ n =>
  simp only [evF] at h
  split at h
  ·cases h; rfl
  ·split at h
   ·split at h
    ·split at h
     ·split at h
      ·split at h
       ·split at h
        ·split at h
         ·simp only [finR] at h
          split at h <;> cases h <;> rfl
         ·cases h
        ·cases h
       ·cases h
      ·cases h
     ·cases h
    ·cases h
   ·cases h

def AWpL (P : Program) (σ0 : Store) (N : Nat) (c : Code) (Q : Exit → St → Prop) (s : St) : Prop :=
 ∀ g0 w0 a w, Rel g0 σ0 w0 N s a w → ∀ (b : Frame) (k : List Item) (cs : List Frame), b.roundOf = (wF none).round → (wF none).fn b.fn → (wF none).room (cs.length + 1 + 0) → ∃ e a' w', lift g0 σ0 w0 N Q e a' w' ∧ ArrivesIn (Machine.fenced P (wF none)) P (lone (b.atR a (.code c :: .inLoop c :: k)) cs w) b k cs e a' w'

theorem YG {P : Program} {σ0 : Store} {N : Nat} {c : Code} {Q : Exit → St → Prop} {s : St} (h : AWpL P σ0 N c Q s) : AWp P σ0 N (.loop c) Q s := by
 intro g0 w0 a w r b k cs hro hb hr
 obtain ⟨e₂, a₂, w₂, hq₂, harr₂⟩ := h g0 w0 a w r b k cs hro hb hr
 exact ⟨e₂, a₂, w₂, hq₂, .of_steps (.one (fenced_calm hb hr rfl) stepR_loop) harr₂⟩

theorem za {P : Program} {σ0 : Store} {N : Nat} {c : Code} {Q : Exit → St → Prop} {s : St} (hw : AWp P σ0 N c (Then (AWpL P σ0 N c Q) Q) s) : AWpL P σ0 N c Q s := by
 intro g0 w0 a w r b k cs hro hb hr
 obtain ⟨e₁, a₁, w₁, ⟨s₁, hq, r₁⟩, harr⟩ := hw g0 w0 a w r b (.inLoop c :: k) cs hro hb hr
 cases e₁ with
 | normal =>
  obtain ⟨e₂, a₂, w₂, hq₂, harr₂⟩ := hq g0 w0 a₁ w₁ r₁ b k cs hro hb hr
  exact ⟨e₂, a₂, w₂, hq₂, .of_steps (StepsIn.trans harr (.one (fenced_calm hb hr rfl) stepR_inLoop)) harr₂⟩
 | exit id => exact ⟨_, a₁, w₁, ⟨s₁, hq, r₁⟩, .pass (x := .inLoop c) rfl (fun _ _ => .inl (by simp)) harr⟩
 | goto l => exact ⟨_, a₁, w₁, ⟨s₁, hq, r₁⟩, .pass (x := .inLoop c) rfl (fun _ _ => .inl (by simp)) harr⟩
 | ret => exact ⟨_, a₁, w₁, ⟨s₁, hq, r₁⟩, .pass (x := .inLoop c) rfl (fun _ _ => .inl (by simp)) harr⟩
 | panic ch => exact ⟨_, a₁, w₁, ⟨s₁, hq, r₁⟩, .pass (x := .inLoop c) rfl (fun _ _ => .inl (by simp)) harr⟩
 | outgrown => exact ⟨_, a₁, w₁, ⟨s₁, hq, r₁⟩, .pass (x := .inLoop c) rfl (fun _ _ => .inl (by simp)) harr⟩

structure CfgOk (C : Cfg) (G : List (Nat × PV)) : Prop where
 hty : TyOk C.P C.ty
 hsz : ∀ t ti, C.ty t = some ti → ti.size ≠ 0
 hca : ∀ f, C.ca f = true → Callable C.P f
 horc : ∀ f args r, C.orc f args = some r → Pur C.P G f args r

theorem yjj {C : Cfg} {G : List (Nat × PV)} (H : CfgOk C G) : ∀ n : Nat,
  (∀ f args σ r σ', σ.gl = G → evF C n f args σ = some (r, σ') → ACalls C.P f args σ fun r' s' => r' = r ∧ s' = σ') ∧
  (∀ f N c s e s' σ0 (Q : Exit → St → Prop), σ0.gl = G → evC C n f N c s = some (e, s') → Q e s' → AWp C.P σ0 N c Q s) ∧
  (∀ f N ops os s s' σ0 (K : St → Prop), σ0.gl = G → evO C n f N ops os s = some s' → K s' → AOpsL C.P σ0 N ops os K s) ∧
  (∀ f N V ops os s s' (K : St → Prop), s.σ.gl = G → evU C n f N V ops os s = some s' → (s'.σ.gl = G → K s') → UL C.P C.ty V N ops os K s) ∧
  (∀ f N c s e s' σ0 (Q : Exit → St → Prop), σ0.gl = G → evC C n f N (.loop c) s = some (e, s') → Q e s' → AWpL C.P σ0 N c Q s)
 | 0 => ⟨fun _ _ _ _ _ _ h => by simp [evF] at h, fun _ _ _ _ _ _ _ _ _ h => by simp [evC] at h, fun _ _ _ _ _ _ _ _ _ h => by simp [evO] at h, fun _ _ _ _ _ _ _ _ _ h => by simp [evU] at h, fun _ _ _ _ _ _ _ _ _ h => by simp [evC] at h⟩
 | n + 1 => by
  obtain ⟨ihF, ihC, ihO, ihU, ihL⟩ := yjj H n
  have loop : ∀ f N c s e s' σ0 (Q : Exit → St → Prop), σ0.gl = G → evC C (n + 1) f N (.loop c) s = some (e, s') → Q e s' → AWpL C.P σ0 N c Q s := by
   intro f N c s e s' σ0 Q hgl h hQ
   simp only [evC] at h
   refine za ?_
   split at h
   ·rename_i s1 h1
    exact ihC f N c s .normal s1 σ0 _ hgl h1 (ihL f N c s1 e s' σ0 _ hgl h hQ)
   ·rename_i hne
    refine ihC f N c s e s' σ0 _ hgl h ?_
    cases e <;> first | exact hQ | exact (hne _ h).elim
  refine ⟨?_, ?_, ?_, ?_, loop⟩
  ·intro f args σ r σ' hgl h
   simp only [evF] at h
   split at h
   ·rename_i r1 ho
    cases h
    exact H.horc f args _ ho _ hgl
   ·split at h
    ·rename_i fn hfn
     split at h
     ·rename_i c hc
      split at h
      ·rename_i hlen
       split at h
       ·rename_i e s hs
        split at h
        ·rename_i hfin
         split at h
         ·rename_i l hl
          split at h
          ·rename_i hnl
           have key : ACalls C.P f args σ fun r' s' => r' = yaz l ∧ s' = s.σ := by
            refine yk H.hty hfn hc (by simpa using hlen) (ihC f fn.ntmps c _ e s σ _ hgl hs ?_)
            cases e <;> first | (cases hfin; done) | exact ⟨l, hl, hnl, rfl, rfl⟩
           have key := key.gl
           simp only [finR] at h
           split at h
           ·rename_i hclo
            cases h
            simp only [Bool.and_eq_true, List.all_eq_true] at hclo
            refine key.less ?_
            rintro _ _ ⟨⟨rfl, rfl⟩, hg2⟩
            exact ⟨_, _, _, yk0 hclo.1, Nat.le_refl _, Nat.le_refl _, fun ob hob => .inr (hclo.2 ob hob), rfl, by rw [← hg2]; rfl⟩
           ·cases h
            refine key.mono ?_
            rintro _ _ ⟨⟨rfl, rfl⟩, hg2⟩
            exact ⟨rfl, by rw [← hg2]⟩
          ·cases h
         ·cases h
        ·cases h
       ·cases h
      ·cases h
     ·cases h
    ·cases h
  ·intro f N c s e s' σ0 Q hgl h hQ
   cases c <;> (try simp only [evC] at h) <;> try (cases h; done)
   case skip => cases h; exact yg hQ
   case ret => cases h; exact yd hQ
   case exit => cases h; exact yp hQ
   case seq x y =>
    refine ya ?_
    split at h
    ·rename_i s1 h1
     exact ihC f N x s .normal s1 σ0 _ hgl h1 (ihC f N y s1 e s' σ0 _ hgl h hQ)
    ·rename_i hne
     refine ihC f N x s e s' σ0 _ hgl h ?_
     cases e <;> first | exact hQ | exact (hne _ h).elim
   case block id c =>
    refine yh ?_
    split at h
    ·rename_i id' s1 h1
     refine ihC f N c s (.exit id') s1 σ0 _ hgl h1 ?_
     split at h
     ·rename_i hb
      have := Nat.eq_of_beq_eq_true hb
      cases h; subst this; exact yl hQ
     ·rename_i hb
      have : id' ≠ id := fun e => by subst e; simp at hb
      cases h; exact yic this hQ
    ·rename_i hne
     refine ihC f N c s e s' σ0 _ hgl h ?_
     cases e <;> first | exact hQ | exact (hne _ _ h).elim
   case loop c =>
    exact YG (loop f N c s e s' σ0 Q hgl (by simp only [evC]; exact h) hQ)
   case cond c x y =>
    split at h
    ·rename_i hc
     exact yc hc (fun _ => ihC f N x s e s' σ0 Q hgl h hQ) (fun e => by cases e)
    ·rename_i hc
     exact yc hc (fun e => by cases e) (fun _ => ihC f N y s e s' σ0 Q hgl h hQ)
    ·cases h
   case region id ops draw =>
    cases draw with
    | false =>
     simp only [evC] at h
     split at h
     ·rename_i s1 h1
      cases h
      exact yS (ihO f N ops _ s s' σ0 _ hgl h1 hQ)
     ·cases h
    | true =>
     simp only [evC] at h
     split at h
     ·rename_i hok
      simp only [Bool.and_eq_true, decide_eq_true_eq] at hok
      split at h
      ·rename_i s1 h1
       split at h
       ·rename_i s2 h2
        cases h
        refine yrj fun hsg => ?_
        refine ymu H.hty H.hsz _ (C.dm f id).2.1 (C.dm f id).2.2 hok.1 hok.2 ?_
        exact ihU f N _ ops _ s s1 _ (hsg.trans hgl) h1 fun _ => ihO f N ops _ s1 s' σ0 _ hgl h2 hQ
       ·cases h
      ·cases h
     ·cases h
  ·intro f N ops os s s' σ0 K hgl h hK
   cases os with
   | nil => simp only [evO] at h; cases h; exact ye hK
   | cons o os =>
    simp only [evO] at h
    split at h
    ·rename_i hd
     split at h
     ·cases h
     ·rename_i hg
      exact yrb hg hd (ihO f N ops os _ s' σ0 K hgl h hK)
     ·rename_i hg
      split at h
      ·rename_i g args hcall
       split at h
       ·rename_i hca
        simp only [Bool.and_eq_true] at hca
        split at h
        ·rename_i r σ' hF
         obtain ⟨c, fo, caps, k1, k2, k3, rfl⟩ := ymo hcall
         refine yso fun hsg => ?_
         refine ypi hg hd (ycE k1 k2 k3 (H.hca g hca.1) hca.2 hd ((ihF g _ s.σ r σ' (hsg.trans hgl) hF).mono ?_))
         rintro _ _ ⟨rfl, rfl⟩
         exact ihO f N ops os _ s' σ0 K hgl h hK
        ·cases h
       ·cases h
      ·split at h
       ·rename_i s1 h1
        exact ypi hg hd (ycA H.hty h1 hd (ihO f N ops os _ s' σ0 K hgl h hK))
       ·cases h
    ·cases h
  ·intro f N V ops os s s' K hgl h hK
   cases os with
   | nil => simp only [evU] at h; cases h; exact yF (hK hgl)
   | cons o os =>
    simp only [evU] at h
    split at h
    ·rename_i hd
     split at h
     ·cases h
     ·rename_i hg
      obtain ⟨d, b, hgt, hb⟩ := yiS hg
      exact ⟨hd, .pure (.tuple []), .no hgt hb, ihU f N V ops os ⟨putT s.T o.dst (.tuple []), s.L, s.σ⟩ s' K hgl h hK⟩
     ·rename_i hg
      split at h
      ·rename_i g args he
       split at h
       ·rename_i hca
        simp only [Bool.and_eq_true, List.isEmpty_iff] at hca
        split at h
        ·rename_i r σ' hF
         have hc := ihF g args s.σ r σ' hgl hF
         refine ⟨hd, _, yiB hg he, H.hca g hca.1.1, hca.1.2, ?_, ?_⟩
         ·refine hc.mono ?_
          rintro _ _ ⟨rfl, rfl⟩
          refine ⟨fun o ob ho => by rw [hca.2] at ho; simp at ho, ?_⟩
          exact ihU f N V ops os ⟨putT s.T o.dst _, s.L, _⟩ s' K ((yiO hF).trans hgl) h hK
         ·exact ⟨r, σ', ihU f N V ops os ⟨putT s.T o.dst r, s.L, σ'⟩ s' K ((yiO hF).trans hgl) h hK⟩
        ·cases h
       ·cases h
      ·rename_i e hne he
       split at h
       ·rename_i hv
        split at h
        ·rename_i s1 h1
         refine ⟨hd, e, yiB hg he, ya8 (n := fun T L σ => UL C.P C.ty V N ops os K ⟨T, L, σ⟩) hv h1 ?_⟩
         exact ihU f N V ops os s1 s' K ((yld h1).trans hgl) h hK
        ·cases h
       ·cases h
      ·cases h
    ·cases h
end Go.Aw

namespace Go.Aw
open Go
variable {P : Program} {ty : TyT} {σ0 : Store} {N : Nat} {s : St} {o : Oper} {os : List Oper} {ops : Array Oper} {K : St → Prop}
end Go.Aw

namespace Go.Aw
open Go
section
variable {ρ : Option Nat} {P : Program} {ty : TyT} {σ0 : Store} {N : Nat} {s : St} {o : Oper} {os : List Oper} {ops : Array Oper} {next : St → Prop} {K : St → Prop}
theorem ygy {p : PV} (hp : p.cells = [p]) (n : Nat) : flat (List.replicate n p) = List.replicate n p := by
 induction n with
 | zero => rfl
 | succ n ih =>
  rw [List.replicate_succ, show p :: List.replicate n p = [p] ++ List.replicate n p from rfl, yeM, ih]
  simp [flat, hp]
theorem yna {B : Nat} {S : Nat → Nat → Prop} {w : World} {k : IntKind} {x : Int} {v : Value} (h : RP B S w (.int k x) v) : v = .int k x := by cases h; rfl
theorem ykt {B : Nat} {S : Nat → Nat → Prop} {w : World} {v : Value} (h : RP B S w .nilp v) : v = .pointer none := by cases h; rfl
theorem yr8 {B : Nat} {S : Nat → Nat → Prop} {w : World} {v : Value} {ps : List PV} (h : RP B S w (.ptr ps) v) : ∃ ad, v = .pointer (some ad) := by cases h; exact ⟨_, rfl⟩
theorem yjR (op : BinOp) (t : TypeId) (p q : Operand) (a b : Option Addr) {P : Program} {w : World} : (eqGuard op t p q (.pointer a) (.pointer b)).run P w = .ok () w := by
 cases op <;> rfl
theorem yhI (hty : TyOk P ty) {t e : TypeId} {ti te : TyI} {l c : Operand} {n : Nat} {p : PV} (ho : o.op = .makeSlice t l c) (hti : ty t = some ti) (hk : ti.kind = .slice e) (hte : ty e = some te) (hz : te.zero = [p]) (hp : p.cells = [p])
  (hl : ev s l = .pv (.int .i64 (n : Int))) (hc : ev s c = .pv (.int .i64 (n : Int))) (hb : te.bytes ≤ 1000) (hbig : n ≤ 1000000000) (hd : yJ N o.dst = true) (hn : next (s.put o.dst (.full (List.replicate n p)))) : AOp P σ0 N o next s := by
 rintro g0 w0 a w nx Q ⟨g, r⟩ hnx
 obtain ⟨i, z, h7, h8, h9, h10, h11, h12, h13⟩ := (hty _ _ hte).info
 have hl' : a.eval l = .int .i64 (n : Int) := by have := r.ev l; rw [hl] at this; exact yna this.pv_inv
 have hc' : a.eval c = .int .i64 (n : Int) := by have := r.ev c; rw [hc] at this; exact yna this.pv_inv
 have hsz : te.size = 1 := by
  have := (Yt (g := g) (tk := s.σ.toks) (w := w) h11).len
  rw [hz] at this
  rw [← h12, ← Array.length_toList, this]; rfl
 have hbytes : (i.bytes : Int) * (n : Int) ≤ 281474976710656 := by
  rw [h9]
  have h1 : te.bytes * n ≤ 1000 * 1000000000 := Nat.mul_le_mul hb hbig
  have h2 : ((te.bytes * n : Nat) : Int) ≤ 1000 * 1000000000 := by omega
  rw [Int.natCast_mul] at h2
  omega
 have hrun := run_make (P := P) w t e i z ((hty _ _ hti).slice hk) h7 h10 .i64 .i64 n n (by omega) (Int.le_refl _) hbytes (by omega)
 simp only [Int.toNat_natCast, h8, hsz, Nat.mul_one] at hrun
 have hzc : RCells g s.σ.toks w (te.zero.map .pv) z.cells.toList := Yt h11
 obtain ⟨v0, hv0⟩ : ∃ v, z.cells = #[v] := by
  have : z.cells.size = 1 := by rw [h12, hsz]
  exact Array.size_eq_one_iff.1 this
 have hmk : madeCells z.cells n = (List.replicate n v0).toArray := by
  apply Array.ext'
  unfold madeCells
  rw [hv0]
  apply List.ext_getElem?
  intro j
  by_cases hj : j < n
  ·simp [hj, Nat.mod_one]
  ·simp [hj]
 rw [hmk] at hrun
 rw [hz, hv0] at hzc
 have hra0 : RA g s.σ.toks w (.pv p) v0 := hzc.all 0 _ _ rfl rfl
 have hone0 : v0.oneCell' = true := hzc.one _ (by simp)
 obtain ⟨r1, f⟩ := r.alloc (.cells (List.replicate n v0).toArray e)
 have r2 := r1.addS f fun _ => True
 unfold opW
 have : (execOp a.eval o).run P w = .ok (.value (.slice (some ⟨w.heap.size, 0, none⟩) n n)) (w.alloc (.cells (List.replicate n v0).toArray e)) := by
  simp only [execOp, ho, Sem.run_bind, hl', hc', hrun, Result.andThen_ok, Sem.run_pure]
 rw [this]
 refine hnx _ _ _ hn ⟨_, r2.put (.full ?_) hd⟩
 have hfl := ygy hp n
 have hln : (List.replicate n p).length = n := by simp
 have hv : Value.slice (some ⟨w.heap.size, 0, none⟩) n n = Value.slice (some ⟨w.heap.size, 0, none⟩) (List.replicate n p).length n := by rw [hln]
 rw [hv]
 refine RP.row (us := List.replicate n v0) (rest := []) (sz := 1) (e := e) (fun q hq => by rw [List.eq_of_mem_replicate hq, hp]; rfl) (fun j x v hx hv => ?_) (by rw [hfl]; simp) (fun u hu => by rw [List.eq_of_mem_replicate hu]; exact hone0) (by rw [zI]; simp) (fun o _ => .inr ⟨rfl, trivial⟩) (Nat.le_of_eq hln)
 rw [hfl] at hx
 simp only [List.getElem?_replicate] at hx hv
 split at hx
 ·rename_i hj
  rw [if_pos hj] at hv
  cases hx; cases hv
  have hra := hra0.alloc r.2.1 (.cells (List.replicate n v0).toArray e)
  have := (r1.2.1.addS f fun _ => True).2
  exact (hra.mono this (fun _ _ h => h)).pv_inv
 ·cases hx
theorem yhS {t e : TypeId} {w : World} (hu : P.underlying t = some (.pointer e)) (a : Option Addr) : (Op.equal t (.pointer a) (.pointer none)).run P w = .ok a.isNone w := by
 have hd : Op.maxDepth = 9999 + 1 := rfl
 rw [Op.equal, hd, Op.equalIn, Sem.run_bind, run_underlying hu, Result.andThen_ok]
 cases a <;> rfl
theorem ynl (hty : TyOk P ty) {t e : TypeId} {ti : TyI} {x y : Operand} {yt : TypeId} (b : Bool) (ho : o.op = .binOp .neq t x y yt) (hti : ty t = some ti) (hk : ti.kind = .ptr e)
  (hx : (ev s x = .pv .nilp ∧ b = false) ∨ ∃ ps, ev s x = .pv (.ptr ps) ∧ b = true) (hy : ev s y = .pv .nilp) (hd : yJ N o.dst = true) (hn : next (s.put o.dst (.pv (.bool b)))) : AOp P σ0 N o next s := by
 rintro g0 w0 a w nx Q ⟨g, r⟩ hnx
 have hu : P.underlying t = some (.pointer e) := by
  obtain ⟨d, h1, h2⟩ := (hty _ _ hti).und
  rw [hk] at h2
  cases d <;> simp at h2
  subst h2; exact h1
 have hx' : ∃ ad, a.eval x = .pointer ad ∧ (!ad.isNone) = b := by
  have h := r.ev x
  rcases hx with ⟨hx, rfl⟩ | ⟨ps, hx, rfl⟩ <;> rw [hx] at h
  ·exact ⟨none, ykt h.pv_inv, rfl⟩
  ·obtain ⟨ad, h1⟩ := yr8 h.pv_inv; exact ⟨some ad, h1, rfl⟩
 obtain ⟨ad, hx1, hx2⟩ := hx'
 have hy' : a.eval y = .pointer none := by have h := r.ev y; rw [hy] at h; exact ykt h.pv_inv
 have hrun : (execOp a.eval o).run P w = .ok (.value (.bool b)) w := by
  simp only [execOp, ho, hx1, hy', Sem.run_bind, yjR, Result.andThen_ok, binOp, yhS hu, Sem.run_pure, hx2]
 unfold opW
 rw [hrun]
 exact hnx _ _ _ hn ⟨g, r.put (.pv .bool) hd⟩
theorem yh7 (hty : TyOk P ty) {t e : TypeId} {ti te : TyI} {l c : Operand} {n : Nat} {p : PV} (hg : o.guard = none) (ho : o.op = .makeSlice t l c) (hti : ty t = some ti) (hk : ti.kind = .slice e) (hte : ty e = some te) (hz : te.zero = [p]) (hp : p.cells = [p])
  (hl : ev s l = .pv (.int .i64 (n : Int))) (hc : ev s c = .pv (.int .i64 (n : Int))) (hb : te.bytes ≤ 1000) (hbig : n ≤ 1000000000) (hd : yJ N o.dst = true) (k : AOpsL P σ0 N ops os K (s.put o.dst (.full (List.replicate n p)))) : AOpsL P σ0 N ops (o :: os) K s :=
 YC hg (yhI hty ho hti hk hte hz hp hl hc hb hbig hd k)
theorem ycR (hty : TyOk P ty) {t e : TypeId} {ti : TyI} {x y : Operand} {yt : TypeId} (b : Bool) (hg : o.guard = none) (ho : o.op = .binOp .neq t x y yt) (hti : ty t = some ti) (hk : ti.kind = .ptr e)
  (hx : (ev s x = .pv .nilp ∧ b = false) ∨ ∃ ps, ev s x = .pv (.ptr ps) ∧ b = true) (hy : ev s y = .pv .nilp) (hd : yJ N o.dst = true) (k : AOpsL P σ0 N ops os K (s.put o.dst (.pv (.bool b)))) : AOpsL P σ0 N ops (o :: os) K s :=
 YC hg (ynl hty b ho hti hk hx hy hd k)
end
end Go.Aw

namespace Go.Aw
open Go
section
variable {ρ : Option Nat} {P : Program} {σ0 : Store} {N : Nat} {s : St} {Q : Exit → St → Prop}
theorem yjQ {c : Code} (d : Nat) {s2 : St} {ob : Nat} {ps : List PV} (hx : get s.T d = .ptr ob 0) (hob : s.σ.objs[ob]? = some (.box (ps.map .pv))) (hw : Weak σ0 ob s.σ.toks.length s.L.length s s2)
  (k : AWpR ρ P σ0 N c Q { s2 with T := (d, .pv (.ptr ps)) :: s2.T }) : AWpR ρ P σ0 N c Q s := by
 rintro g0 w0 a w ⟨g, r⟩
 have r2 := hw.rel r
 have hpr := r.2.2.2.2 d
 rw [hx] at hpr
 generalize hpv : a.tmps.getD d undef = pv at hpr
 cases hpr with
 | ptr hio =>
  rename_i b
  obtain ⟨hnl, vs, e, h6, h7, h8, h9⟩ := r.2.1.objs ob _ b hob hio
  have hlow := r.2.1.low b (ydK hio)
  have ap := r.2.1.apart
  have hfr : Fresh (g.cut ob s.σ.toks.length s.L.length) w b := by
   refine ⟨hlow.1, hlow.2.1, hlow.2.2, fun o hS => (r.2.1.cells b o hS).2.2.1 (List.mem_of_getElem? hio), ?_⟩
   intro hm
   simp only [Ghost.owned, Ghost.cut, List.mem_append] at hm
   rcases hm with (hm | hm) | hm
   ·obtain ⟨q, hq, hqe⟩ := List.getElem_of_mem hm
    have hq2 : q < ob := by rw [List.length_take] at hq; omega
    have : g.io[q]? = some b := by
     rw [List.getElem_take] at hqe
     rw [← hqe]; simp
    have := Ya ap.1.1 this hio
    omega
   ·exact ap.2.1 b (List.mem_of_getElem? hio) (List.mem_of_mem_take hm)
   ·obtain ⟨tb, htb, hte⟩ := List.mem_filterMap.1 hm
    cases tb with
    | none => cases hte
    | some tb =>
     simp only [Option.map_some, Option.some.injEq] at hte
     obtain ⟨kk, hkk, hke⟩ := List.getElem_of_mem (List.mem_of_mem_take htb)
     have := (ap.2.2 kk tb (by rw [← hke]; simp)).1
     rw [hte] at this
     exact this (List.mem_of_getElem? hio)
  have r3 := r2.addS hfr (fun o => o < ps.length)
  refine k g0 w0 a w ⟨_, r3.1, r3.2.1, r3.2.2.1, r3.2.2.2.1, fun t => ?_⟩
  simp only [get]
  split
  ·subst_vars
   rw [hpv]
   have hle : Keeps g.B g.S (fun c o => g.S c o ∨ (c = b ∧ o < ps.length)) w w := ⟨fun _ _ h => .inl h, fun _ _ _ => rfl, fun _ _ => rfl⟩
   have hpl : vs.length = ps.length := by simpa using h7
   refine .pv (RP.ptr (vs := vs) hpl (fun i v hv => ?_) (fun i x v hx hv => ?_))
   ·refine ⟨.inr (.inr ⟨rfl, by have := (List.getElem?_eq_some_iff.1 hv).1; omega⟩), ?_, h8 v (List.mem_of_getElem? hv)⟩
    rw [zg h6, List.getElem?_toArray, Nat.zero_add]
    exact hv
   ·exact (h9 i (.pv x) v (by rw [List.getElem?_map, hx]; rfl) hv).pv_inv.mono hle
  ·exact r3.2.2.2.2 t
theorem ybi {c : Code} (d : Nat) (keep : List Nat) (σ' : Store) {ob : Nat} {ps : List PV} (hx : get s.T d = .ptr ob 0) (hob : s.σ.objs[ob]? = some (.box (ps.map .pv))) (hσ : σ' = s.σ.cut ob s.σ.toks.length) (h0 : σ0.objs.length ≤ ob) (ht : σ0.toks.length ≤ s.σ.toks.length)
  (hT : ∀ p, p ∈ (keep.map fun t => (t, get s.T t)) → WV ob s.σ.toks.length s.L.length (get s.T p.1) p.2) (co : ∀ ob', ob' ∈ σ'.objs → ob' ∈ σ0.objs ∨ ob'.clo ob s.σ.toks.length s.L.length = true) (cL : ∀ cs, cs ∈ s.L → AV.clos ob s.σ.toks.length s.L.length cs = true)
  (k : AWpR ρ P σ0 N c Q ⟨(d, .pv (.ptr ps)) :: keep.map fun t => (t, get s.T t), s.L, σ'⟩) : AWpR ρ P σ0 N c Q s :=
 yjQ d (s2 := ⟨keep.map fun t => (t, get s.T t), s.L, σ'⟩) hx hob ⟨hσ, by simp, h0, ht, hT, co, cL⟩ k
end
end Go.Aw

namespace Go.Aw
open Go
def zO : List ByteArray → PV
  | [] => .nilp
  | n :: r => .ptr [.str n, .bool false, zO r]
theorem yiQ {l : List ByteArray} {k : Nat} {x : ByteArray} (h : l[k]? = some x) : zO (l.drop k) = .ptr [.str x, .bool false, zO (l.drop (k + 1))] := by
  obtain ⟨hk, rfl⟩ := List.getElem?_eq_some_iff.1 h
  rw [List.drop_eq_getElem_cons hk]; rfl
theorem yoY (l : List ByteArray) (k : Nat) : (AV.pv (zO (l.drop k)) = .pv .nilp ∧ decide (k < l.length) = false) ∨ ∃ ps, AV.pv (zO (l.drop k)) = .pv (.ptr ps) ∧ decide (k < l.length) = true := by
  by_cases h : k < l.length
  · refine .inr ⟨_, congrArg AV.pv (yiQ (x := l[k]) (by simp [h])), by simpa using h⟩
  · refine .inl ⟨?_, by simpa using h⟩
    rw [List.drop_of_length_le (by omega)]; rfl
@[go_sem] theorem ysg (l : List ByteArray) : (AV.pv (zO l)).cells = some [.pv (zO l)] := by cases l <;> rfl
@[go_sem] theorem ysS (l : List ByteArray) : PV.nrm (zO l) = zO l := by cases l <;> rfl
theorem ye1 (l : List ByteArray) (x : ByteArray) : memB l x = l.any fun y => decide (y = x) := by
  unfold memB
  congr 1
  funext y
  rw [decide_eq_decide]; exact eq_comm
theorem ylk {ns l : List ByteArray} {k : Nat} {x : ByteArray} (h : ns[k]? = some x) : PV.ptr [.str x, .bool false, zO ((ns.take k).reverse ++ l)] = zO ((ns.take (k + 1)).reverse ++ l) := by
  rw [yI h, List.reverse_append]; rfl
theorem yqG {n k : Nat} {p : PV} (h : k < n) : (List.replicate n p)[k]? = some p := by simp [h]
def frd (d : D) (l S : List ByteArray) (k : Nat) : List ByteArray := ((subs d).take k).foldl (fun S q => sfree q.2 (q.1.ns.map (·.1) ++ l) S) S
theorem yfk {d : D} {l S : List ByteArray} {k : Nat} {q : Sub × D} (h : (subs d)[k]? = some q) : frd d l S (k + 1) = sfree q.2 (q.1.ns.map (·.1) ++ l) (frd d l S k) := by
  unfold frd
  rw [yI h, List.foldl_append]; rfl
theorem ykl {d : D} {l S : List ByteArray} (h : yb d ≠ 2) : frd d l S (subs d).length = sfree d l S := by
  unfold frd
  rw [List.take_length, yat, if_neg (by simpa using h)]
theorem ykP {d : D} {l S : List ByteArray} (h : yb d = 2) : sfree d l S = if memB l d.text = true then S else addS S d.text := by
  rw [yat, if_pos (by simpa using h)]
theorem yau (d : D) : (ownS d).length ≤ d.size := by
  have h1 := D.kids_length_lt (d1 d.kids)
  by_cases h : 1 < d.kids.length
  · have h2 : (d1 d.kids).size < d.size := D.size_kid_lt (Yw (n := 1) h)
    unfold ownS
    split
    · simp; omega
    · split
      · simp; omega
      · split
        · simp; omega
        · split
          · simp; omega
          · simp
  · have h2 : d1 d.kids = dnone := by
      show d.kids.getD 1 dnone = dnone
      rw [List.getD_eq_getElem?_getD, List.getElem?_eq_none (by omega)]; rfl
    have := D.size_pos d
    unfold ownS
    rw [h2]
    split
    · simp [dnone, D.kids]
    · split
      · simp [dnone, D.kids]
      · split
        · simp; omega
        · split
          · simp [dnone, D.kids]
          · simp
theorem yp8 {d : D} (h : yb d = 4 ∨ yb d = 8 ∨ yb d = 10) {q : Sub × D} (hq : q ∈ subs d) : q.1.ns = [] := by
  rcases h with h | h | h
  · rw [zX (.inl h)] at hq; obtain ⟨i, x, hx, rfl⟩ := YL hq; rfl
  · rw [zX (.inr h)] at hq; obtain ⟨i, x, hx, rfl⟩ := YL hq; rfl
  · rw [Yr h] at hq; obtain ⟨i, x, hx, rfl⟩ := YL hq; rfl
theorem ye7 {d : D} (h : yb d ≠ 5 ∧ yb d ≠ 9 ∧ yb d ≠ 6 ∧ yb d ≠ 7) {q : Sub × D} (hq : q ∈ subs d) : q.1.ns = [] := by
  by_cases h4 : yb d = 4 ∨ yb d = 8 ∨ yb d = 10
  · exact yp8 h4 hq
  · have hs : subs d = [] := Yb (by cases shape d <;> omega)
    rw [hs] at hq; simp at hq
theorem zB {d : D} (h : yb d = 7) {i : Nat} {x : D} (hx : (d1 d.kids).kids[i]? = some x) : (subs d)[i]? = some (subR d i x) := by
  rw [zd h, List.getElem?_append_left (by rw [zu]; exact (List.getElem?_eq_some_iff.1 hx).1), zC, hx]; rfl
theorem zR {d : D} (h : yb d = 7) : (subs d)[(d1 d.kids).kids.length]? = some (subL d 2 (d2 d.kids)) ∧ (subs d).length = (d1 d.kids).kids.length + 1 := by
  rw [zd h]
  refine ⟨?_, by rw [List.length_append, zu]; rfl⟩
  rw [List.getElem?_append_right (by rw [zu]; omega), zu]; simp
@[go_sem] theorem yar (p : List Int) : (AV.pv (wPV p)).cells = some [.pv (wPV p)] := by unfold wPV; split <;> rfl
@[go_sem] theorem ys5 {i a j b : Nat} : WA (.lptr i a) (.lptr j b) ↔ i = j ∧ a = b := ⟨fun h => by cases h with | same => exact ⟨rfl, rfl⟩, fun ⟨h1, h2⟩ => by subst h1 h2; exact .same⟩
theorem Yn {σ : Store} {B : List AObj} {om : Nat} {S : List ByteArray} (h : om < σ.objs.length) : (setS ⟨σ.gl, σ.objs ++ B, σ.toks⟩ om S).cut σ.objs.length σ.toks.length = setS σ om S := by
  unfold setS Store.cut
  simp [List.set_append_left _ _ h]
theorem ynO {P : Program} {f : FuncId} {args : List AV} {σ : Store} {om : Nat} {S : List ByteArray} (h : ACalls P f args σ fun r σ' => r = .tuple [] ∧ σ'.cut σ.objs.length σ.toks.length = setS σ om S) : ACalls P f args σ fun r σ' => r = .tuple [] ∧ σ' = setS σ om S := by
  refine h.less fun r σ' ⟨h1, h2⟩ => ⟨_, _, .tuple [], by subst h1; simp [go_sem], Nat.le_refl _, Nat.le_refl _, fun ob hob => ?_, rfl, h2⟩
  have : σ'.objs.take σ.objs.length = (setS σ om S).objs := congrArg Store.objs h2
  rw [this] at hob
  exact yok hob
theorem ynQ {P : Program} {f : FuncId} {args : List AV} {σ : Store} {ks vs : List PV} (h : ACalls P f args σ fun r σ' => r = .map σ.objs.length ∧ σ'.cut (σ.objs.length + 1) σ.toks.length = { σ with objs := σ.objs ++ [.map ks vs] }) : ACalls P f args σ fun r σ' => r = .map σ.objs.length ∧ σ' = { σ with objs := σ.objs ++ [.map ks vs] } := by
  refine h.less fun r σ' ⟨h1, h2⟩ => ⟨σ.objs.length + 1, σ.toks.length, .map σ.objs.length, by subst h1; simp [go_sem], by omega, Nat.le_refl _, fun ob hob => ?_, rfl, h2⟩
  have : σ'.objs.take (σ.objs.length + 1) = σ.objs ++ [.map ks vs] := congrArg Store.objs h2
  rw [this, List.mem_append, List.mem_singleton] at hob
  rcases hob with hob | rfl
  · exact .inl hob
  · exact .inr rfl
theorem zn {σ : Store} {om i : Nat} {S : List ByteArray} (h : om ≠ i) : (setS σ om S).objs[i]? = σ.objs[i]? := by
  unfold setS; exact List.getElem?_set_ne h
theorem yao {l : List AObj} {a b c d e : AObj} : (l ++ [a, b, c, d, e])[l.length + 4]? = some e := by simp
theorem ynR {X : Store} {om r : Nat} {S : List ByteArray} {a b : AObj} (h : om ≠ r) (ha : X.objs[r]? = some a) : { setS { X with objs := X.objs.set r b } om S with objs := ((setS { X with objs := X.objs.set r b } om S).objs).set r a } = setS X om S := by
  unfold setS
  have e : ((X.objs.set r b).set om (.map (tK S) (tV S))).set r a = X.objs.set om (.map (tK S) (tV S)) := by
   rw [List.set_comm _ _ (Ne.symm h), List.set_set, List.set_comm _ _ h]
   congr 1
   exact yii ha
  show (⟨X.gl, ((X.objs.set r b).set om (.map (tK S) (tV S))).set r a, X.toks⟩ : Store) = ⟨X.gl, X.objs.set om (.map (tK S) (tV S)), X.toks⟩
  rw [e]
end Go.Aw

namespace Go.Aw
open Go
def yK : List AObj → List (Nat × AObj) → List AObj
 | l, [] => l
 | l, q :: r => yK (l.set q.1 q.2) r
theorem zt : ∀ (U : List (Nat × AObj)) (l : List AObj), (yK l U).length = l.length
 | [], l => rfl
 | q :: r, l => by simp [yK, zt r]
theorem zr {i : Nat} : ∀ {U : List (Nat × AObj)} {l : List AObj}, i ∉ U.map (·.1) → (yK l U)[i]? = l[i]?
 | [], l, _ => rfl
 | q :: r, l, h => by
  simp only [List.map_cons, List.mem_cons, not_or] at h
  rw [yK, zr h.2, List.getElem?_set_ne (fun e => h.1 e.symm)]
theorem YJ {q : Nat × AObj} : ∀ {U : List (Nat × AObj)} {l : List AObj}, (U.map (·.1)).Nodup → q ∈ U → q.1 < l.length → (yK l U)[q.1]? = some q.2
 | [], l, _, h, _ => by simp at h
 | x :: r, l, hn, h, hl => by
  simp only [List.map_cons, List.nodup_cons] at hn
  rcases List.mem_cons.1 h with rfl | h
  ·rw [yK, zr hn.1, List.getElem?_set_self hl]
  ·rw [yK]; exact YJ hn.2 h (by simpa using hl)
theorem ycP : ∀ {U : List (Nat × AObj)} {l B : List AObj}, (∀ q, q ∈ U → q.1 < l.length) → yK (l ++ B) U = yK l U ++ B
 | [], l, B, _ => rfl
 | q :: r, l, B, h => by
  rw [yK, yK, List.set_append_left _ _ (h q (by simp)), ycP (fun x hx => by simpa using h x (by simp [hx]))]
theorem yaC : ∀ {U : List (Nat × AObj)} {l : List AObj}, (∀ q, q ∈ U → l[q.1]? = some q.2) → yK l U = l
 | [], l, _ => rfl
 | q :: r, l, h => by
  have e : l.set q.1 q.2 = l := by
   apply List.ext_getElem?
   intro j
   rw [List.getElem?_set]
   split
   ·subst_vars
    rw [h q (by simp)]; simp [(List.getElem?_eq_some_iff.1 (h q (by simp))).1]
   ·rfl
  rw [yK, e]
  exact yaC fun x hx => h x (by simp [hx])
theorem yaW {l m : List AObj} {U : List (Nat × AObj)} (hn : (U.map (·.1)).Nodup) (hl : l.length = m.length) (hu : ∀ q, q ∈ U → m[q.1]? = some q.2) (ho : ∀ i, i ∉ U.map (·.1) → l[i]? = m[i]?) : yK l U = m := by
 apply List.ext_getElem?
 intro i
 by_cases hi : i ∈ U.map (·.1)
 ·obtain ⟨q, hq, rfl⟩ := List.mem_map.1 hi
  have := hu q hq
  rw [this, YJ hn hq (by rw [hl]; exact (List.getElem?_eq_some_iff.1 this).1)]
 ·rw [zr hi, ho i hi]
theorem yaR {l : List AObj} {U V : List (Nat × AObj)} (hn : (V.map (·.1)).Nodup) (hs : ∀ i, i ∈ U.map (·.1) → i ∈ V.map (·.1)) : yK (yK l U) V = yK l V := by
 apply List.ext_getElem?
 intro i
 by_cases hi : i ∈ V.map (·.1)
 ·obtain ⟨q, hq, rfl⟩ := List.mem_map.1 hi
  by_cases hlt : q.1 < l.length
  ·rw [YJ hn hq (by rw [zt]; exact hlt), YJ hn hq hlt]
  ·rw [List.getElem?_eq_none (by simp [zt]; omega), List.getElem?_eq_none (by simp [zt]; omega)]
 ·rw [zr hi, zr hi, zr (fun h => hi (hs i h))]
theorem ZT {ob : AObj} : ∀ {U : List (Nat × AObj)} {l : List AObj}, ob ∈ yK l U → ob ∈ l ∨ ∃ q, q ∈ U ∧ ob = q.2
 | [], l, h => .inl h
 | q :: r, l, h => by
  rcases ZT (U := r) h with h | ⟨x, hx, e⟩
  ·rcases List.mem_or_eq_of_mem_set h with h | h
   ·exact .inl h
   ·exact .inr ⟨q, by simp, h⟩
  ·exact .inr ⟨x, by simp [hx], e⟩
def updS (σ : Store) (U : List (Nat × AObj)) : Store := { σ with objs := yK σ.objs U }
def HasU (σ : Store) (U : List (Nat × AObj)) : Prop := ∀ q, q ∈ U → σ.objs[q.1]? = some q.2
theorem YX {σ : Store} {U : List (Nat × AObj)} (h : HasU σ U) : updS σ U = σ := by unfold updS; rw [yaC h]
theorem ycN {σ : Store} {U : List (Nat × AObj)} (hn : (U.map (·.1)).Nodup) (hl : ∀ q, q ∈ U → q.1 < σ.objs.length) : HasU (updS σ U) U := fun q hq => YJ hn hq (hl q hq)
theorem yon {σ : Store} {U V : List (Nat × AObj)} (hn : (V.map (·.1)).Nodup) (hs : ∀ i, i ∈ U.map (·.1) → i ∈ V.map (·.1)) : updS (updS σ U) V = updS σ V := by
 unfold updS; simp only; rw [yaR hn hs]
theorem HasU.lt {σ : Store} {U : List (Nat × AObj)} (h : HasU σ U) {q : Nat × AObj} (hq : q ∈ U) : q.1 < σ.objs.length := (List.getElem?_eq_some_iff.1 (h q hq)).1
theorem HasU.app {σ : Store} {U : List (Nat × AObj)} (h : HasU σ U) (B : List AObj) (tk : List Tok) : HasU ⟨σ.gl, σ.objs ++ B, tk⟩ U := fun q hq => by
 show (σ.objs ++ B)[q.1]? = _
 rw [List.getElem?_append_left (h.lt hq)]; exact h q hq
theorem yoK {σ : Store} {U : List (Nat × AObj)} {B : List AObj} {tk : List Tok} (hl : ∀ q, q ∈ U → q.1 < σ.objs.length) : updS ⟨σ.gl, σ.objs ++ B, tk⟩ U = ⟨σ.gl, (updS σ U).objs ++ B, tk⟩ := by
 unfold updS; simp only; rw [ycP hl]
theorem ZF {σ : Store} {U : List (Nat × AObj)} {B : List AObj} {tk : List Tok} (hl : ∀ q, q ∈ U → q.1 < σ.objs.length) (ht : tk.take σ.toks.length = σ.toks) : (updS ⟨σ.gl, σ.objs ++ B, tk⟩ U).cut σ.objs.length σ.toks.length = updS σ U := by
 rw [yoK hl]
 unfold Store.cut updS
 simp only
 rw [ht, List.take_append_of_le_length (by rw [zt]; exact Nat.le_refl _), List.take_of_length_le (by rw [zt]; exact Nat.le_refl _)]
theorem yb4 {σ : Store} {U : List (Nat × AObj)} {i : Nat} (h : i ∉ U.map (·.1)) : (updS σ U).objs[i]? = σ.objs[i]? := zr h
theorem yE {σ : Store} {U : List (Nat × AObj)} : (updS σ U).gl = σ.gl := rfl
theorem y6 {σ : Store} {U : List (Nat × AObj)} : (updS σ U).toks = σ.toks := rfl
theorem yfx {σ : Store} {U : List (Nat × AObj)} : (updS σ U).objs.length = σ.objs.length := zt _ _

inductive AD where
 | mk (kind num : Int) (text : ByteArray) (o : Nat) (kids : List AD)
def AD.kind : AD → Int | .mk k _ _ _ _ => k
def AD.num : AD → Int | .mk _ n _ _ _ => n
def AD.text : AD → ByteArray | .mk _ _ t _ _ => t
def AD.o : AD → Nat | .mk _ _ _ o _ => o
def AD.kids : AD → List AD | .mk _ _ _ _ l => l
mutual
def AD.dat : AD → D
 | .mk k n t _ l => .mk k n t (AD.dats l)
def AD.dats : List AD → List D
 | [] => []
 | a :: l => a.dat :: AD.dats l
end
theorem AD.dats_map : ∀ l : List AD, AD.dats l = l.map AD.dat
 | [] => rfl
 | a :: l => by simp [AD.dats, AD.dats_map l]
theorem AD.dat_kids (t : AD) : t.dat.kids = t.kids.map AD.dat := by cases t; simp [AD.dat, D.kids, AD.kids, AD.dats_map]
theorem AD.dat_text (t : AD) : t.dat.text = t.text := by cases t; rfl
theorem AD.dat_kind (t : AD) : t.dat.kind = t.kind := by cases t; rfl
theorem AD.dat_num (t : AD) : t.dat.num = t.num := by cases t; rfl
def kvOf (o : Nat) (l : List AD) : AV := match l with | [] => .pv (.slice []) | _ :: _ => .sl o 0 l.length
def AD.kv : AD → AV | .mk _ _ _ o l => kvOf o l
def AD.cells : AD → List AV | .mk k n t o l => [.pv (.int .i64 k), .pv (.int .i64 n), .pv (.str t), kvOf o l]
theorem AD.cells_eq (t : AD) : t.cells = [.pv (.int .i64 t.kind), .pv (.int .i64 t.num), .pv (.str t.text), t.kv] := by cases t; rfl
theorem AD.cells_len (t : AD) : t.cells.length = 4 := by cases t; rfl
def Zz (o : Nat) (l : List AD) : List (Nat × AObj) := match l with | [] => [] | _ :: _ => [(o, .arr (l.flatMap AD.cells))]
mutual
def AD.arrs : AD → List (Nat × AObj)
 | .mk _ _ _ o l => Zz o l ++ AD.arrss l
def AD.arrss : List AD → List (Nat × AObj)
 | [] => []
 | a :: l => a.arrs ++ AD.arrss l
end
theorem AD.arrss_flat : ∀ l : List AD, AD.arrss l = l.flatMap AD.arrs
 | [] => rfl
 | a :: l => by simp [AD.arrss, AD.arrss_flat l]
theorem AD.arrs_eq (t : AD) : t.arrs = Zz t.o t.kids ++ t.kids.flatMap AD.arrs := by cases t; simp [AD.arrs, AD.arrss_flat, AD.o, AD.kids]
theorem AD.ind {p : AD → Prop} (h : ∀ k n t o l, (∀ d, d ∈ l → p d) → p (.mk k n t o l)) : ∀ d, p d := by
 intro d
 exact AD.rec (motive_1 := p) (motive_2 := fun l => ∀ d, d ∈ l → p d) (fun k n t o l ih => h k n t o l ih) (by simp) (fun d l h1 h2 => by
  intro x hx
  rcases List.mem_cons.1 hx with rfl | hx
  ·exact h1
  ·exact h2 x hx) d
def AD.av (t : AD) : AV := yaU t.cells
theorem AD.av_cells (t : AD) : t.av.cells = some t.cells := by
 cases t with
 | mk k n tx o l => cases l <;> rfl
theorem AD.av_leaf {t : AD} (h : t.kids = []) : t.av = .pv (enc t.dat) := by
 cases t with
 | mk k n tx o l =>
  simp only [AD.kids] at h
  subst h; rfl
theorem AD.av_node {t : AD} (h : t.kids ≠ []) : t.av = .agg t.cells := by
 cases t with
 | mk k n tx o l =>
  simp only [AD.kids] at h
  cases l with
  | nil => exact (h rfl).elim
  | cons a l => rfl
theorem zH (l : List AD) : (l.flatMap AD.cells).length = 4 * l.length := by
 induction l with
 | nil => rfl
 | cons a l ih => simp [List.flatMap_cons, AD.cells_len, ih]; omega
theorem yhx {l : List AD} {i : Nat} {t : AD} (h : l[i]? = some t) {j : Nat} (hj : j < 4) : (l.flatMap AD.cells)[4 * i + j]? = t.cells[j]? := by
 induction l generalizing i with
 | nil => simp at h
 | cons a l ih =>
  cases i with
  | zero => simp at h; subst h; rw [List.flatMap_cons, List.getElem?_append_left (by rw [AD.cells_len]; omega)]; simp
  | succ i =>
   rw [List.getElem?_cons_succ] at h
   rw [List.flatMap_cons, List.getElem?_append_right (by rw [AD.cells_len]; omega), AD.cells_len, show 4 * (i + 1) + j - 4 = 4 * i + j by omega]
   exact ih h
theorem AD.noL_cells (t : AD) : ∀ x, x ∈ t.cells → x.noL = true := by
 intro x hx
 rw [AD.cells_eq] at hx
 simp only [List.mem_cons, List.not_mem_nil, or_false] at hx
 rcases hx with rfl | rfl | rfl | rfl
 ·rfl
 ·rfl
 ·rfl
 ·cases t with
  | mk k n tx o l => cases l <;> rfl

section freeze
variable {g : Ghost} {tk : List Tok} {w : World} {S' : Nat → Nat → Prop}
theorem AD.reads (hS : ∀ b o, g.S b o → S' b o) : ∀ (t : AD) (v : Value), (∀ q, q ∈ t.arrs → ∃ b, g.io[q.1]? = some b ∧ RObj g tk w b q.2 ∧ ∀ o, S' b o) → RA g tk w t.kv v → RP g.B S' w (.slice (t.dat.kids.map enc)) v := by
 intro t
 induction t using AD.ind with
 | _ k n tx o l ih =>
  intro v hq hv
  have hks : Keeps g.B g.S S' w w := ⟨hS, fun _ _ _ => rfl, fun _ _ => rfl⟩
  rw [AD.dat_kids]
  simp only [AD.kids, AD.kv] at *
  cases l with
  | nil => exact hv.pv_inv.mono hks
  | cons a l =>
   simp only [kvOf] at hv
   cases hv with
   | sl hio hn =>
    rename_i c b
    obtain ⟨b2, h1, h2, h3⟩ := hq (o, .arr ((a :: l).flatMap AD.cells)) (by simp [AD.arrs, Zz])
    simp only at h1
    rw [hio] at h1
    cases h1
    obtain ⟨hnl, vs, rest, e, k1, k2, k3, k4⟩ := h2
    generalize hL : a :: l = L at *
    have hlen : ((L.map AD.dat).map enc).length = L.length := by simp
    rw [show L.length = ((L.map AD.dat).map enc).length by simp]
    refine .slice (sz := 4) (vs := vs) (fun x hx => ?_) (by rw [k2, zH]; simp; omega) (by rw [hlen]; exact hn) (fun i v hv => ?_) (fun i x v hx hv => ?_)
    ·obtain ⟨d, _, rfl⟩ := List.mem_map.1 hx
     rw [zQ]; rfl
    ·refine ⟨.inr (h3 _), ?_, k3 v (List.mem_of_getElem? hv)⟩
     rw [zg k1, Nat.zero_add, List.getElem?_toArray, List.getElem?_append_left (List.getElem?_eq_some_iff.1 hv).1]
     exact hv
    ·have hi : i < 4 * L.length := by
      have := (List.getElem?_eq_some_iff.1 hv).1
      rw [k2, zH] at this; exact this
     obtain ⟨t, ht⟩ : ∃ t, L[i / 4]? = some t := ⟨L[i / 4]'(by omega), by simp⟩
     have hc := yhx ht (j := i % 4) (by omega)
     rw [show 4 * (i / 4) + i % 4 = i by omega] at hc
     have hf := yfq (xs := (L.map AD.dat).map enc) (sz := 4) (fun x hx => by obtain ⟨d, _, rfl⟩ := List.mem_map.1 hx; rw [zQ]; rfl) (i := i / 4) (x := enc t.dat) (by simp [ht]) (j := i % 4) (by omega)
     rw [show i / 4 * 4 + i % 4 = i by omega, hx, zQ] at hf
     rw [AD.cells_eq] at hc
     have htm : t ∈ L := List.mem_of_getElem? ht
     have hj : i % 4 = 0 ∨ i % 4 = 1 ∨ i % 4 = 2 ∨ i % 4 = 3 := by omega
     rcases hj with hj | hj | hj | hj <;> rw [hj] at hc hf
     ·simp only [List.getElem?_cons_zero, Option.some.injEq] at hf hc; subst hf
      have := (k4 i _ v hc hv).pv_inv.mono hks
      rw [AD.dat_kind]; exact this
     ·simp only [List.getElem?_cons_succ, List.getElem?_cons_zero, Option.some.injEq] at hf hc; subst hf
      have := (k4 i _ v hc hv).pv_inv.mono hks
      rw [AD.dat_num]; exact this
     ·simp only [List.getElem?_cons_succ, List.getElem?_cons_zero, Option.some.injEq] at hf hc; subst hf
      have := (k4 i _ v hc hv).pv_inv.mono hks
      rw [AD.dat_text]; exact this
     ·simp only [List.getElem?_cons_succ, List.getElem?_cons_zero, Option.some.injEq] at hf hc; subst hf
      refine ih t htm v (fun q hq2 => hq q ?_) (k4 i _ v hc hv)
      rw [AD.arrs, AD.arrss_flat, List.mem_append]
      exact .inr (List.mem_flatMap.2 ⟨t, htm, hq2⟩)
theorem AD.readsAgg (hS : ∀ b o, g.S b o → S' b o) (t : AD) {v : Value} (hq : ∀ q, q ∈ t.arrs → ∃ b, g.io[q.1]? = some b ∧ RObj g tk w b q.2 ∧ ∀ o, S' b o) (hv : RA g tk w (.agg t.cells) v) : RP g.B S' w (enc t.dat) v := by
 have hks : Keeps g.B g.S S' w w := ⟨hS, fun _ _ _ => rfl, fun _ _ => rfl⟩
 rw [AD.cells_eq] at hv
 rw [yaM]
 cases hv with
 | agg hl h1 hr =>
  rename_i vs
  refine .agg (by rw [hl]; rfl) h1 (fun i x v hx hv => ?_)
  match i, hx with
  | 0, hx => simp only [List.getElem?_cons_zero, Option.some.injEq] at hx; subst hx; have := (hr 0 _ v rfl hv).pv_inv.mono hks; rw [AD.dat_kind]; exact this
  | 1, hx => simp only [List.getElem?_cons_succ, List.getElem?_cons_zero, Option.some.injEq] at hx; subst hx; have := (hr 1 _ v rfl hv).pv_inv.mono hks; rw [AD.dat_num]; exact this
  | 2, hx => simp only [List.getElem?_cons_succ, List.getElem?_cons_zero, Option.some.injEq] at hx; subst hx; have := (hr 2 _ v rfl hv).pv_inv.mono hks; rw [AD.dat_text]; exact this
  | 3, hx => simp only [List.getElem?_cons_succ, List.getElem?_cons_zero, Option.some.injEq] at hx; subst hx; exact AD.reads hS t v hq (hr 3 _ v rfl hv)
  | n + 4, hx => simp at hx

theorem AD.readsAv (hS : ∀ b o, g.S b o → S' b o) (t : AD) {v : Value} (hq : ∀ q, q ∈ t.arrs → ∃ b, g.io[q.1]? = some b ∧ RObj g tk w b q.2 ∧ ∀ o, S' b o) (hv : RA g tk w t.av v) : RP g.B S' w (enc t.dat) v := by
 by_cases h : t.kids = []
 ·rw [AD.av_leaf h] at hv
  exact hv.pv_inv.mono ⟨hS, fun _ _ _ => rfl, fun _ _ => rfl⟩
 ·rw [AD.av_node h] at hv
  exact AD.readsAgg hS t hq hv

variable {σ : Store} {L : List (List AV)}
theorem Inv.addSs (h : Inv g σ L w) (Bs : Nat → Prop) (f : ∀ b, Bs b → Fresh g w b) :
  Inv { g with S := fun c o => g.S c o ∨ Bs c } σ L w ∧ Le g σ.toks w { g with S := fun c o => g.S c o ∨ Bs c } σ.toks w := by
 have hk : Keeps g.B g.S (fun c o => g.S c o ∨ Bs c) w w := ⟨fun _ _ h => .inl h, fun _ _ _ => rfl, fun _ _ => rfl⟩
 have le : Le g σ.toks w { g with S := fun c o => g.S c o ∨ Bs c } σ.toks w := ⟨rfl, hk, fun _ _ h => h, fun _ t h => ⟨t, h, rfl, rfl, Nat.le_refl _, fun _ => rfl⟩⟩
 have ho : ∀ b, Bs b → (b ∉ g.io ∧ b ∉ g.lam) ∧ b ∉ g.tb.filterMap fun o => o.map (·.b) := fun b hb => by
  have := (f b hb).own
  simp only [Ghost.owned, List.mem_append, not_or] at this
  exact this
 refine ⟨⟨h.lio, h.llam, h.ltb, fun n p hp => (h.glob n p hp).mono hk, h.nodup, h.low, fun c hK => ⟨(h.kept c hK).1, ?_⟩, h.base, fun c o hS => ?_, fun o ob c h1 hio => (h.objs o ob c h1 hio).mono le (fun _ _ h => h) rfl, fun i cs' c hL hlm => (h.priv i cs' c hL hlm).mono le (fun _ _ h => h) rfl, fun k t tb ht htb => ?_⟩, le⟩
 ·rintro o (hS | hB)
  ·exact (h.kept c hK).2 o hS
  ·exact (f c hB).K hK
 ·rcases hS with hS | hB
  ·exact h.cells c o hS
  ·exact ⟨(f c hB).low, (f c hB).lt, (ho c hB).1.1, (ho c hB).1.2⟩
 ·obtain ⟨cur, h1, h2, h3, h4, h5⟩ := h.toks k t tb ht htb
  refine ⟨cur, h1, h2, h3, h4, fun o hS => ?_⟩
  rcases hS with hS | hB
  ·exact h5 o hS
  ·have hm : tb.b ∈ g.tb.filterMap fun o => o.map (·.b) := List.mem_filterMap.2 ⟨some tb, List.mem_of_getElem? htb, rfl⟩
   exact absurd hm (ho _ hB).2
theorem Inv.freshOld (h : Inv g σ L w) {i no nt nl b : Nat} (hi : g.io[i]? = some b) (hno : no ≤ i) : Fresh (g.cut no nt nl) w b := by
 have hlow := h.low b (ydK hi)
 have ap := h.apart
 refine ⟨hlow.1, hlow.2.1, hlow.2.2, fun o hS => (h.cells b o hS).2.2.1 (List.mem_of_getElem? hi), ?_⟩
 intro hm
 simp only [Ghost.owned, Ghost.cut, List.mem_append] at hm
 rcases hm with (hm | hm) | hm
 ·obtain ⟨q, hq, hqe⟩ := List.getElem_of_mem hm
  have hq2 : q < no := by rw [List.length_take] at hq; omega
  have : g.io[q]? = some b := by
   rw [List.getElem_take] at hqe
   rw [← hqe]; simp
  have := Ya ap.1.1 this hi
  omega
 ·exact ap.2.1 b (List.mem_of_getElem? hi) (List.mem_of_mem_take hm)
 ·obtain ⟨tb, htb, hte⟩ := List.mem_filterMap.1 hm
  cases tb with
  | none => cases hte
  | some tb =>
   simp only [Option.map_some, Option.some.injEq] at hte
   obtain ⟨kk, hkk, hke⟩ := List.getElem_of_mem (List.mem_of_mem_take htb)
   have := (ap.2.2 kk tb (by rw [← hke]; simp)).1
   rw [hte] at this
   exact this (List.mem_of_getElem? hi)
end freeze
theorem ACalls.freeze {P : Program} {f : FuncId} {args : List AV} {σ : Store} {R R' : AV → Store → Prop} (h : ACalls P f args σ R)
  (k : ∀ r σ', R r σ' → ∃ t : AD, r = t.av ∧ (∀ q, q ∈ t.arrs → σ.objs.length ≤ q.1 ∧ σ'.objs[q.1]? = some q.2) ∧ (∀ ob, ob ∈ σ'.objs.take σ.objs.length → ob ∈ σ.objs ∨ ob.clo σ.objs.length σ.toks.length 0 = true) ∧
   R' (.pv (enc t.dat)) (σ'.cut σ.objs.length σ.toks.length)) : ACalls P f args σ R' := by
 intro g w cargs h1 h2 h3
 refine (h g w cargs h1 h2 h3).mono ?_
 rintro e w' ⟨v, r, σ', g', rfl, hR, hinv, hext, hra⟩
 obtain ⟨t, rfl, k2, k3, k4⟩ := k r σ' hR
 have hi := hinv.cut (no := σ.objs.length) (nt := σ.toks.length) (nl := 0) (fun ob hob => by
  rcases k3 ob hob with h | h
  ·exact hext.clo0 ob h
  ·exact h) (fun cs hcs => by simp at hcs)
 have hio : ∀ q, q ∈ t.arrs → ∃ b, g'.io[q.1]? = some b ∧ RObj g' σ'.toks w' b q.2 := by
  intro q hq
  have h4 := (k2 q hq).2
  have hlt : q.1 < g'.io.length := by rw [hinv.lio]; exact (List.getElem?_eq_some_iff.1 h4).1
  exact ⟨g'.io[q.1], by simp, hinv.objs q.1 q.2 _ h4 (by simp)⟩
 obtain ⟨i2, le2⟩ := hi.addSs (fun b => ∃ q, q ∈ t.arrs ∧ g'.io[q.1]? = some b) (by
  rintro b ⟨q, hq, hb⟩
  exact hinv.freshOld hb (k2 q hq).1)
 have hext2 := hext.cut (no := σ.objs.length) (nt := σ.toks.length) (nl := 0) (Nat.le_refl _) (Nat.le_refl _)
 refine ⟨v, _, _, _, rfl, k4, i2, ?_, .pv ?_⟩
 ·exact ⟨hext2.le.trans le2, hext2.gl, hext2.K, hext2.blk, hext2.size, hext2.os, hext2.tape, hext2.output, hext2.io0, hext2.clo0⟩
 ·refine AD.readsAv (g := g') (tk := σ'.toks) (fun b o h => .inl h) t (fun q hq => ?_) hra
  obtain ⟨b, h4, h5⟩ := hio q hq
  exact ⟨b, h4, h5, fun o => .inr ⟨q, hq, h4⟩⟩
end Go.Aw

namespace Go.Aw
open Go
end Go.Aw

namespace Go.Aw
open Go
section
variable {ρ : Option Nat} {P : Program} {ty : TyT} {g0 g : Ghost} {σ0 : Store} {w0 w : World} {N : Nat} {s : St} {a : Act} {o : Oper} {x : AV} {next : St → Prop} {ops : Array Oper} {os : List Oper} {K : St → Prop} {L : List (List AV)} {σ : Store}
theorem yjA (hty : TyOk P ty) {t e : TypeId} {ti : TyI} {x y : Operand} {yt : TypeId} {xs : List PV} (ho : o.op = .binOp .eql t x y yt) (hti : ty t = some ti) (hk : ti.kind = .slice e)
  (hx : (ev s x).elems = some xs) (hy : ev s y = .pv .nils) (hd : yJ N o.dst = true) (hn : ∀ b : Bool, (xs ≠ [] → b = false) → next (s.put o.dst (.pv (.bool b)))) : AOp P σ0 N o next s := by
 rintro g0 w0 a w nx Q ⟨g, r⟩ hnx
 have hu := (hty _ _ hti).slice hk
 have hxr := (r.ev x).elems hx
 have hy' : a.eval y = .slice none 0 0 := by have h := r.ev y; rw [hy] at h; exact h.pv_inv.nils_inv
 obtain ⟨ad, n, m, hxv, hne⟩ : ∃ (ad : Option Addr) (n m : Nat), a.eval x = .slice ad n m ∧ (xs ≠ [] → ad.isNone = false) := by
  generalize a.eval x = v at hxr
  cases hxr with
  | empty => exact ⟨_, _, _, rfl, fun h => (h rfl).elim⟩
  | slice => exact ⟨_, _, _, rfl, fun _ => rfl⟩
 have hrun : (execOp a.eval o).run P w = .ok (.value (.bool ad.isNone)) w := by
  have hg : (eqGuard .eql t x y (.slice ad n m) (.slice none 0 0)).run P w = .ok () w := rfl
  simp only [execOp, ho, hxv, hy', Sem.run_bind, hg, Result.andThen_ok, binOp, Ze hu, Sem.run_pure]
 unfold opW
 rw [hrun]
 exact hnx _ _ _ (hn _ hne) ⟨g, r.put (.pv .bool) hd⟩
theorem yf7 (hty : TyOk P ty) {t e : TypeId} {ti : TyI} {x y : Operand} {yt : TypeId} {xs : List PV} (hg : o.guard = none) (ho : o.op = .binOp .eql t x y yt) (hti : ty t = some ti) (hk : ti.kind = .slice e)
  (hx : (ev s x).elems = some xs) (hy : ev s y = .pv .nils) (hd : yJ N o.dst = true) (k : ∀ b : Bool, (xs ≠ [] → b = false) → AOpsL P σ0 N ops os K (s.put o.dst (.pv (.bool b)))) : AOpsL P σ0 N ops (o :: os) K s :=
 YC hg (yjA hty ho hti hk hx hy hd k)

theorem Inv.setTell (h : Inv g σ L w) {i : Nat} {ob ob' : AObj} (hi : σ.objs[i]? = some ob) (hk : ∀ b, RObj g σ.toks w b ob → RObj g σ.toks w b ob') : Inv g { σ with objs := σ.objs.set i ob' } L w := by
 refine ⟨by simp [h.lio], h.llam, h.ltb, h.glob, h.nodup, h.low, h.kept, h.base, h.cells, fun j ob2 c ho hio => ?_, h.priv, h.toks⟩
 simp only [List.getElem?_set] at ho
 split at ho
 ·subst_vars
  split at ho
  ·cases ho; exact hk c (h.objs _ ob c hi hio)
  ·cases ho
 ·exact h.objs j ob2 c ho hio
theorem RelG.setTell (r : RelG g0 σ0 w0 N g s a w) {i : Nat} {ob ob' : AObj} (hi : s.σ.objs[i]? = some ob) (hk : ∀ b, RObj g s.σ.toks w b ob → RObj g s.σ.toks w b ob') : RelG g0 σ0 w0 N g { s with σ := { s.σ with objs := s.σ.objs.set i ob' } } a w :=
 r.later (σ' := { s.σ with objs := s.σ.objs.set i ob' }) (L' := s.L) (Le.refl _ _ _) (fun _ _ h => h) (r.2.1.setTell hi hk) rfl rfl (fun _ _ => rfl) (Nat.le_refl _) rfl rfl rfl
theorem yjB {tk : List Tok} {b : Nat} {cs : List AV} (h : RObj g tk w b (.box cs)) : RObj g tk w b (.arr cs) := by
 obtain ⟨h0, vs, e, h1, h2, h3, h4⟩ := h
 exact ⟨h0, vs, [], e, by simpa using h1, h2, h3, h4⟩
theorem yjx {tk : List Tok} {b sz cap : Nat} {e : TypeId} {xs : List PV} (h : RObj g tk w b (.row e sz cap xs)) : RObj g tk w b (.arr ((flat xs).map .pv)) := by
 obtain ⟨h1, h2, h3, us, rest, h4, h5, h6, h7, h8⟩ := h
 refine ⟨fun x hx => ?_, us, rest, e, h4, by rw [h5, List.length_map, z6 h1], h7, fun i x v hx hv => ?_⟩
 ·obtain ⟨p, _, rfl⟩ := List.mem_map.1 hx; rfl
 ·rw [List.getElem?_map] at hx
  obtain ⟨p, hp, rfl⟩ := Option.map_eq_some_iff.1 hx
  exact .pv (h8 i p v hp hv)
theorem yfy {c : Code} {Q : Exit → St → Prop} (i : Nat) (cs : List AV) (hi : s.σ.objs[i]? = some (.box cs)) (k : AWpR ρ P σ0 N c Q { s with σ := { s.σ with objs := s.σ.objs.set i (.arr cs) } }) : AWpR ρ P σ0 N c Q s := by
 rintro g0 w0 a w ⟨g, r⟩
 exact k g0 w0 a w ⟨g, r.setTell hi fun b => yjB⟩
theorem yhR (hty : TyOk P ty) {p q : Operand} {t e : TypeId} {ti te : TyI} {ys : List PV} (ho : o.op = .call { callee := .builtin .append, args := #[p, q], argTypes := #[t, t] }) (hti : ty t = some ti) (hk : ti.kind = .slice e) (hte : ty e = some te)
  (hp : ev s p = .full []) (hq : (ev s q).elems = some ys) (hy0 : ys ≠ []) (hys : y4 te.size ys = true) (hb0 : 0 < te.bytes) (hbytes : ys.length * te.bytes ≤ 140737488355328) {d : Tmp} (hdst : o.dst = some d) (hd : yJ N o.dst = true)
  (hnx : next (({ s with σ := { s.σ with objs := s.σ.objs ++ [.arr ((flat ys).map .pv)] } } : St).put o.dst (.sl s.σ.objs.length 0 ys.length))) : AOp P σ0 N o next s := by
 rintro g0 w0 a w nx Q hr hnext
 refine yhF (next := fun s1 => ∃ cap, ys.length ≤ cap ∧ s1 = ({ s with σ := { s.σ with objs := s.σ.objs ++ [.row e te.size cap ys] } } : St).put o.dst (.scr s.σ.objs.length ys.length cap)) hty ho hti hk hte hp hq hy0 hys hb0 hbytes hd (fun cap hc => ⟨cap, hc, rfl⟩) g0 w0 a w nx Q hr ?_
 rintro s' a' w' ⟨cap, hc, rfl⟩ ⟨g, r⟩
 refine hnext _ _ _ hnx ⟨g, ?_⟩
 rw [hdst] at r ⊢
 have r2 := r.setTell (i := s.σ.objs.length) (ob := .row e te.size cap ys) (ob' := .arr ((flat ys).map .pv)) (by simp [St.put]) (fun b => yjx)
 have e1 : (s.σ.objs ++ [AObj.row e te.size cap ys]).set s.σ.objs.length (.arr ((flat ys).map .pv)) = s.σ.objs ++ [.arr ((flat ys).map .pv)] := by simp
 simp only [St.put, e1] at r2 ⊢
 refine ⟨r2.1, r2.2.1, r2.2.2.1, r2.2.2.2.1, fun t => ?_⟩
 have h := r2.2.2.2.2 t
 simp only [get] at h ⊢
 split
 ·subst_vars
  rw [if_pos rfl] at h
  generalize a'.tmps.getD _ undef = v at h ⊢
  have hyn : ys.length ≠ 0 := fun e => hy0 (List.eq_nil_of_length_eq_zero e)
  generalize ys.length = nn at h hyn ⊢
  cases h with
  | scr h1 h2 h3 => exact .sl h1 h2
  | scrnil => exact (hyn rfl).elim
 ·rw [if_neg ‹_›] at h; exact h
theorem yib (hty : TyOk P ty) {p q : Operand} {t e : TypeId} {ti te : TyI} {ys : List PV} (hg : o.guard = none) (ho : o.op = .call { callee := .builtin .append, args := #[p, q], argTypes := #[t, t] }) (hti : ty t = some ti) (hk : ti.kind = .slice e) (hte : ty e = some te)
  (hp : ev s p = .full []) (hq : (ev s q).elems = some ys) (hy0 : ys ≠ []) (hys : y4 te.size ys = true) (hb0 : 0 < te.bytes) (hbytes : ys.length * te.bytes ≤ 140737488355328) {d : Tmp} (hdst : o.dst = some d) (hd : yJ N o.dst = true)
  (k : AOpsL P σ0 N ops os K (({ s with σ := { s.σ with objs := s.σ.objs ++ [.arr ((flat ys).map .pv)] } } : St).put o.dst (.sl s.σ.objs.length 0 ys.length))) : AOpsL P σ0 N ops (o :: os) K s :=
 YC hg (yhR hty ho hti hk hte hp hq hy0 hys hb0 hbytes hdst hd k)
end
end Go.Aw

namespace Go.Aw
open Go
mutual
def msz : D → Nat
 | .mk _ _ _ l => bif l.isEmpty then 0 else 1 + mszs l
def mszs : List D → Nat
 | [] => 0
 | d :: l => msz d + mszs l
end
mutual
def lay (m : Nat) : D → AD
 | .mk k n t l => .mk k n t m (lays (m + 1) l)
def lays (m : Nat) : List D → List AD
 | [] => []
 | d :: l => lay m d :: lays (m + msz d) l
end
theorem yfF (d : D) : msz d = if d.kids = [] then 0 else 1 + mszs d.kids := by
 cases d with
 | mk k n t l => cases l <;> simp [msz, D.kids]
theorem ygi (m : Nat) (d : D) : lay m d = .mk d.kind d.num d.text m (lays (m + 1) d.kids) := by cases d; rfl
theorem YZ : ∀ (l : List D) (m : Nat), (lays m l).length = l.length
 | [], m => rfl
 | d :: l, m => by simp [lays, YZ l]
theorem ybR : ∀ (l r : List D) (m : Nat), lays m (l ++ r) = lays m l ++ lays (m + mszs l) r
 | [], r, m => by simp [lays, mszs]
 | d :: l, r, m => by simp [lays, mszs, ybR l r, Nat.add_assoc]
theorem ybM : ∀ (l r : List D), mszs (l ++ r) = mszs l + mszs r
 | [], r => by simp [mszs]
 | d :: l, r => by simp [mszs, ybM l r, Nat.add_assoc]
theorem ycn : ∀ (d : D) (m : Nat), (lay m d).dat = d := by
 intro d
 induction d using D.ind with
 | _ k n t l ih =>
  intro m
  have key : ∀ (l : List D) (m : Nat), (∀ d, d ∈ l → ∀ m, (lay m d).dat = d) → AD.dats (lays m l) = l := by
   intro l
   induction l with
   | nil => intro m _; rfl
   | cons d l ihl => intro m h; rw [lays, AD.dats, h d (by simp), ihl _ (fun x hx => h x (by simp [hx]))]
  rw [lay, AD.dat, key l _ ih]
theorem ymg (o m : Nat) (l : List D) : kvOf o (lays m l) = if l = [] then .pv (.slice []) else .sl o 0 l.length := by
 cases l with
 | nil => rfl
 | cons d l => simp [lays, kvOf, YZ]
def lobjs (m : Nat) (d : D) : List AObj := (lay m d).arrs.map (·.2)
def lobjss (m : Nat) (l : List D) : List AObj := (AD.arrss (lays m l)).map (·.2)
theorem yaS (l r : List D) (m : Nat) : lobjss m (l ++ r) = lobjss m l ++ lobjss (m + mszs l) r := by
 unfold lobjss
 rw [ybR, AD.arrss_flat, AD.arrss_flat, AD.arrss_flat, List.flatMap_append, List.map_append]
theorem yfe (m : Nat) (d : D) : lobjs m d = if d.kids = [] then [] else .arr ((lays (m + 1) d.kids).flatMap AD.cells) :: lobjss (m + 1) d.kids := by
 unfold lobjs lobjss
 rw [ygi, AD.arrs]
 cases hk : d.kids with
 | nil => rfl
 | cons x l => simp [lays, Zz]
theorem ycZ (m : Nat) (d : D) : lobjss m [d] = lobjs m d := by simp [lobjss, lobjs, lays, AD.arrss]
theorem Zh : ∀ (d : D) (m : Nat), (lobjs m d).length = msz d := by
 intro d
 induction d using D.ind with
 | _ k n t l ih =>
  intro m
  have key : ∀ (l : List D) (m : Nat), (∀ d, d ∈ l → ∀ m, (lobjs m d).length = msz d) → (lobjss m l).length = mszs l := by
   intro l
   induction l with
   | nil => intro m _; rfl
   | cons d l ihl =>
    intro m h
    rw [show d :: l = [d] ++ l from rfl, yaS, ycZ, List.length_append, h d (by simp), ihl _ (fun x hx => h x (by simp [hx])), ybM]
    simp [mszs]
  rw [yfe, yfF]
  show (if l = [] then _ else _ : List AObj).length = if l = [] then 0 else 1 + mszs l
  split
  ·rfl
  ·rw [List.length_cons]
   show (lobjss (m + 1) l).length + 1 = _
   rw [key l _ ih]; omega
theorem ykU (l : List D) (m : Nat) : (lobjss m l).length = mszs l := by
 induction l generalizing m with
 | nil => rfl
 | cons d l ih => rw [show d :: l = [d] ++ l from rfl, yaS, ycZ, List.length_append, Zh, ih, ybM]; simp [mszs]
theorem YM : ∀ (d : D) (m : Nat), (lay m d).arrs.map (·.1) = List.range' m (msz d) := by
 intro d
 induction d using D.ind with
 | _ k n t l ih =>
  intro m
  have key : ∀ (l : List D) (m : Nat), (∀ d, d ∈ l → ∀ m, (lay m d).arrs.map (·.1) = List.range' m (msz d)) → (AD.arrss (lays m l)).map (·.1) = List.range' m (mszs l) := by
   intro l
   induction l with
   | nil => intro m _; rfl
   | cons d l ihl =>
    intro m h
    rw [lays, AD.arrss, List.map_append, h d (by simp), ihl _ (fun x hx => h x (by simp [hx])), mszs, List.range'_append_1]
  rw [lay, AD.arrs, List.map_append, key l _ ih, yfF]
  show _ = List.range' m (if l = [] then 0 else 1 + mszs l)
  cases l with
  | nil => rfl
  | cons x l => simp [lays, Zz, Nat.add_comm 1, List.range'_succ]
theorem ylw {σ : Store} {U : List (Nat × AObj)} {A C : List AObj} (h : σ.objs = A ++ U.map (·.2) ++ C) (hk : U.map (·.1) = List.range' A.length U.length) : HasU σ U := by
 intro q hq
 obtain ⟨i, hi, rfl⟩ := List.getElem_of_mem hq
 have h1 : (U.map (·.1))[i]? = some U[i].1 := by rw [List.getElem?_map, List.getElem?_eq_getElem hi]; rfl
 rw [hk, List.getElem?_range' (by simpa using hi)] at h1
 simp only [Option.some.injEq] at h1
 rw [← h1, h, List.append_assoc, List.getElem?_append_right (by omega), List.getElem?_append_left (by simp; omega)]
 rw [show A.length + 1 * i - A.length = i by omega, List.getElem?_map, List.getElem?_eq_getElem hi]; rfl
theorem yb6 {σ : Store} {A C : List AObj} {d : D} (h : σ.objs = A ++ lobjs A.length d ++ C) : HasU σ (lay A.length d).arrs := by
 refine ylw (A := A) (C := C) h ?_
 rw [YM]
 congr 1
 have := congrArg List.length (YM d A.length)
 simpa using this.symm
theorem ymZ (d : D) (m : Nat) : ((lay m d).arrs.map (·.1)).Nodup := by rw [YM]; exact List.nodup_range'
theorem yq9 {d : D} {m : Nat} {q : Nat × AObj} (h : q ∈ (lay m d).arrs) : m ≤ q.1 ∧ q.1 < m + msz d := by
 have : q.1 ∈ (lay m d).arrs.map (·.1) := List.mem_map.2 ⟨q, h, rfl⟩
 rw [YM, List.mem_range'_1] at this
 exact this

def clC (n : Nat) (l : List D) (k : Nat) : List AV := (lays (n + 1) (l.take k)).flatMap AD.cells ++ (flat ((l.drop k).map enc)).map .pv
def clS (σ : Store) (l : List D) (k : Nat) : Store := ⟨σ.gl, σ.objs ++ .arr (clC σ.objs.length l k) :: lobjss (σ.objs.length + 1) (l.take k), σ.toks⟩
theorem yo9 (n : Nat) (l : List D) : clC n l 0 = (flat (l.map enc)).map .pv := by simp [clC, lays]
theorem yqc (n : Nat) (l : List D) : clC n l l.length = (lays (n + 1) l).flatMap AD.cells := by simp [clC, flat]
theorem ygU (σ : Store) (l : List D) (k : Nat) : (clS σ l k).objs[σ.objs.length]? = some (.arr (clC σ.objs.length l k)) := by simp [clS]
theorem ykw (σ : Store) (l : List D) (k : Nat) : (clS σ l k).objs.length = σ.objs.length + 1 + mszs (l.take k) := by simp [clS, ykU]; omega
theorem yiq {n k : Nat} {l : List D} {x : D} (h : l[k]? = some x) : (clC n l k).drop (k * 4) = (enc x).cells.map .pv ++ (flat ((l.drop (k + 1)).map enc)).map .pv := by
 have hk : k < l.length := (List.getElem?_eq_some_iff.1 h).1
 unfold clC
 rw [List.drop_append_of_le_length (by rw [zH, YZ, List.length_take]; omega), List.drop_of_length_le (by rw [zH, YZ, List.length_take]; omega), List.nil_append]
 have : l.drop k = x :: l.drop (k + 1) := by rw [List.drop_eq_getElem_cons hk]; congr 1; exact (List.getElem?_eq_some_iff.1 h).2
 rw [this]
 simp [flat]
theorem yqv {n k : Nat} {l : List D} {x : D} (h : l[k]? = some x) : overlay (clC n l k) (k * 4) (lay (n + 1 + mszs (l.take k)) x).cells = clC n l (k + 1) := by
 have hk : k < l.length := (List.getElem?_eq_some_iff.1 h).1
 have hd := yiq (n := n) h
 unfold overlay
 rw [AD.cells_len]
 have h1 : (clC n l k).take (k * 4) = (lays (n + 1) (l.take k)).flatMap AD.cells := by
  unfold clC
  rw [List.take_append_of_le_length (by rw [zH, YZ, List.length_take]; omega), List.take_of_length_le (by rw [zH, YZ, List.length_take]; omega)]
 have h2 : (clC n l k).drop (k * 4 + 4) = (flat ((l.drop (k + 1)).map enc)).map .pv := by
  rw [← List.drop_drop, hd, List.drop_append_of_le_length (by rw [List.length_map, zQ]; simp), List.drop_of_length_le (by rw [List.length_map, zQ]; simp), List.nil_append]
 rw [h1, h2]
 unfold clC
 rw [yI h, ybR]
 simp [lays]
theorem yov {σ : Store} {k : Nat} {l : List D} {x : D} (h : l[k]? = some x) :
  (⟨(clS σ l k).gl, ((clS σ l k).objs ++ lobjs (clS σ l k).objs.length x).set σ.objs.length (.arr (overlay (clC σ.objs.length l k) (k * 4) (lay (clS σ l k).objs.length x).cells)), (clS σ l k).toks⟩ : Store) = clS σ l (k + 1) := by
 rw [ykw, yqv h]
 unfold clS
 simp only [List.append_assoc, List.cons_append]
 rw [List.set_append_right _ _ (Nat.le_refl _), Nat.sub_self, List.set_cons_zero, yI h, yaS, ycZ]
theorem ypj {σ : Store} {d : D} (h : d.kids ≠ []) : clS σ d.kids d.kids.length = ⟨σ.gl, σ.objs ++ lobjs σ.objs.length d, σ.toks⟩ := by
 unfold clS
 rw [yqc, List.take_length, yfe, if_neg h]
theorem ypW (n : Nat) (l : List D) (k : Nat) : (clC n l k).length = 4 * l.length := by
 unfold clC
 rw [List.length_append, List.length_map, zH, YZ, List.length_take, z6 (sz := 4) (fun x hx => by obtain ⟨d, _, rfl⟩ := List.mem_map.1 hx; rw [zQ]; rfl), List.length_map, List.length_drop]
 omega
section
variable {P : Program} {ty : TyT} {σ0 : Store} {N : Nat} {s : St} {o : Oper} {ops : Array Oper} {os : List Oper} {K : St → Prop} {σ : Store}
theorem yhE (hty : TyOk P ty) {t : TypeId} {p y : Operand} {ti : TyI} {l : List D} {k : Nat} {x : D} (hx : l[k]? = some x) (hg : o.guard = none) (ho : o.op = .store t p y) (hdst : o.dst = none) (hti : ty t = some ti) (h4 : ti.size = 4)
  (hp : ev s p = .ptr σ.objs.length (k * 4)) (hy : ev s y = (lay (clS σ l k).objs.length x).av) (hs : s.σ = ⟨(clS σ l k).gl, (clS σ l k).objs ++ lobjs (clS σ l k).objs.length x, (clS σ l k).toks⟩)
  (h : AOpsL P σ0 N ops os K ⟨s.T, s.L, clS σ l (k + 1)⟩) : AOpsL P σ0 N ops (o :: os) K s := by
 have hk : k < l.length := (List.getElem?_eq_some_iff.1 hx).1
 obtain ⟨T, L, σs⟩ := s
 simp only at hs
 subst hs
 refine YC hg (yaT hty (i := σ.objs.length) (off := k * 4) (cs := clC σ.objs.length l k) (ds := (lay (clS σ l k).objs.length x).cells) ho hp hti ?_ (by rw [hy]; exact AD.av_cells _) (AV.noLs_iff.2 (AD.noL_cells _)) (by rw [AD.cells_len, h4]) (by rw [AD.cells_len, ypW]; omega) (by rw [hdst]; rfl) ?_)
 ·exact (List.getElem?_append_left (by rw [ykw]; omega)).trans (ygU _ _ _)
 ·rw [hdst]
  simp only [St.put]
  rw [yov hx]
  exact h
end
theorem yjt {m : Nat} {d : D} (h : d.kids ≠ []) : (lay m d).av = .agg [.pv (.int .i64 d.kind), .pv (.int .i64 d.num), .pv (.str d.text), .sl m 0 d.kids.length] := by
 rw [AD.av_node (by rw [ygi]; intro e; apply h; have := congrArg List.length e; simp only [AD.kids, YZ] at this; exact List.eq_nil_of_length_eq_zero this), ygi, AD.cells, ymg, if_neg h]
theorem yjE {m : Nat} {d : D} (h : d.kids = []) : (lay m d).av = .pv (enc d) := by
 have e : (lay m d).kids = [] := by rw [ygi, h]; rfl
 rw [AD.av_leaf e, ycn]
theorem zS (m : Nat) (d : D) : AV.noLs (lay m d).cells = true := AV.noLs_iff.2 (AD.noL_cells _)
end Go.Aw

namespace Go.Aw
open Go
def AD.sub : AD → List Int → Option AD
 | t, [] => some t
 | t, i :: p => if 0 ≤ i then (t.kids[i.toNat]?).bind fun k => AD.sub k p else none
def AD.loc : Nat × Nat → AD → List Int → Nat × Nat
 | l, _, [] => l
 | l, t, i :: p => match t.kids[i.toNat]? with
  | some k => AD.loc (t.o, i.toNat * 4) k p
  | none => l
def AD.setText : AD → List Int → ByteArray → AD
 | .mk k n _ o l, [], s => .mk k n s o l
 | .mk k n t o l, i :: p, s => match l[i.toNat]? with
  | some c => .mk k n t o (l.set i.toNat (AD.setText c p s))
  | none => .mk k n t o l
def D.sub : D → List Int → Option D
 | d, [] => some d
 | d, i :: p => if 0 ≤ i then (d.kids[i.toNat]?).bind fun k => D.sub k p else none
def D.setText : D → List Int → ByteArray → D
 | .mk k n _ l, [], s => .mk k n s l
 | .mk k n t l, i :: p, s => match l[i.toNat]? with
  | some c => .mk k n t (l.set i.toNat (D.setText c p s))
  | none => .mk k n t l
theorem AD.sub_dat : ∀ (p : List Int) (t : AD), t.dat.sub p = (t.sub p).map AD.dat
 | [], t => rfl
 | i :: p, t => by
  simp only [D.sub, AD.sub, AD.dat_kids]
  split
  ·rw [List.getElem?_map]
   cases t.kids[i.toNat]? with
   | none => rfl
   | some k => exact AD.sub_dat p k
  ·rfl
theorem AD.loc_snoc : ∀ (p : List Int) (l : Nat × Nat) (t u k : AD) (i : Int), t.sub p = some u → u.kids[i.toNat]? = some k → AD.loc l t (p ++ [i]) = (u.o, i.toNat * 4)
 | [], l, t, u, k, i, h, hk => by
  cases h
  simp only [List.nil_append, AD.loc, hk]
 | j :: p, l, t, u, k, i, h, hk => by
  simp only [AD.sub] at h
  split at h
  ·obtain ⟨c, hc, h⟩ := Option.bind_eq_some_iff.1 h
   simp only [List.cons_append, AD.loc, hc]
   exact AD.loc_snoc p _ c u k i h hk
  ·cases h
theorem AD.sub_append : ∀ (p q : List Int) (t : AD), t.sub (p ++ q) = (t.sub p).bind fun u => u.sub q
 | [], q, t => rfl
 | j :: p, q, t => by
  simp only [List.cons_append, AD.sub]
  split
  ·cases t.kids[j.toNat]? with
   | none => rfl
   | some k => exact AD.sub_append p q k
  ·rfl
theorem D.sub_append : ∀ (p q : List Int) (t : D), t.sub (p ++ q) = (t.sub p).bind fun u => u.sub q
 | [], q, t => rfl
 | j :: p, q, t => by
  simp only [List.cons_append, D.sub]
  split
  ·cases t.kids[j.toNat]? with
   | none => rfl
   | some k => exact D.sub_append p q k
  ·rfl
theorem ybr {α : Type} {l : List α} {j : Nat} {c c' : α} (h : l[j]? = some c) : l = l.take j ++ c :: l.drop (j + 1) ∧ l.set j c' = l.take j ++ c' :: l.drop (j + 1) := by
 have hj : j < l.length := (List.getElem?_eq_some_iff.1 h).1
 have hc : l[j] = c := (List.getElem?_eq_some_iff.1 h).2
 refine ⟨?_, ?_⟩
 ·conv => lhs; rw [← List.take_append_drop j l]
  rw [List.drop_eq_getElem_cons hj, hc]
 ·rw [List.set_eq_take_append_cons_drop, if_pos hj]
theorem ZD {o : Nat} {l : List AD} (h : l ≠ []) : Zz o l = [(o, .arr (l.flatMap AD.cells))] := by
 cases l with
 | nil => exact (h rfl).elim
 | cons a l => rfl
theorem yi4 {o : Nat} {l r : List AD} (h : l.length = r.length) : kvOf o l = kvOf o r := by
 cases l with
 | nil => cases r with
  | nil => rfl
  | cons b r => simp at h
 | cons a l => cases r with
  | nil => simp at h
  | cons b r => simp only [kvOf, h]
theorem AD.setText_keys : ∀ (p : List Int) (t : AD) (s : ByteArray), (t.setText p s).arrs.map (·.1) = t.arrs.map (·.1)
 | [], .mk k n tx o l, s => rfl
 | i :: p, .mk k n tx o l, s => by
  simp only [AD.setText]
  cases h : l[i.toNat]? with
  | none => rfl
  | some c =>
   obtain ⟨h1, h2⟩ := ybr (c' := c.setText p s) h
   simp only [AD.arrs, List.map_append, AD.arrss_flat]
   have hne : l ≠ [] := by intro e; rw [e] at h; simp at h
   have hne2 : l.set i.toNat (c.setText p s) ≠ [] := by intro e; have := congrArg List.length e; simp at this; exact hne (by simpa using this)
   rw [ZD hne, ZD hne2, h2]
   conv => rhs; rw [h1]
   simp only [List.map_cons, List.map_nil, List.flatMap_append, List.flatMap_cons, List.map_append, AD.setText_keys p c s]
def ze (o : Nat) (pre post : List AV) (t : AD) : List (Nat × AObj) := (o, .arr (pre ++ t.cells ++ post)) :: t.arrs
theorem AD.loc_at {σ : Store} : ∀ (p : List Int) (t u : AD) (o : Nat) (pre post : List AV), HasU σ (ze o pre post t) → t.sub p = some u →
  ∃ cells rest, σ.objs[(AD.loc (o, pre.length) t p).1]? = some (.arr cells) ∧ cells.drop (AD.loc (o, pre.length) t p).2 = u.cells ++ rest
 | [], t, u, o, pre, post, h, hu => by
  cases hu
  refine ⟨_, post, h _ (List.mem_cons_self), ?_⟩
  simp [AD.loc]
 | i :: p, t, u, o, pre, post, h, hu => by
  simp only [AD.sub] at hu
  split at hu
  ·obtain ⟨c, hc, hu⟩ := Option.bind_eq_some_iff.1 hu
   obtain ⟨h1, _⟩ := ybr (c' := c) hc
   have hne : t.kids ≠ [] := by intro e; rw [e] at hc; simp at hc
   have hl : ((t.kids.take i.toNat).flatMap AD.cells).length = i.toNat * 4 := by
    rw [zH, List.length_take, Nat.min_eq_left (Nat.le_of_lt (List.getElem?_eq_some_iff.1 hc).1)]; omega
   have := AD.loc_at (σ := σ) p c u t.o ((t.kids.take i.toNat).flatMap AD.cells) ((t.kids.drop (i.toNat + 1)).flatMap AD.cells) (by
    intro q hq
    refine h q (List.mem_cons_of_mem _ ?_)
    rw [AD.arrs_eq, ZD hne]
    rcases List.mem_cons.1 hq with rfl | hq
    ·refine List.mem_append_left _ ?_
     rw [List.mem_singleton]
     conv => rhs; rw [h1]
     simp
    ·refine List.mem_append_right _ (List.mem_flatMap.2 ⟨c, List.mem_of_getElem? hc, hq⟩)) hu
   rw [hl] at this
   simpa only [AD.loc, hc] using this
  ·cases hu
theorem zV {o : Nat} {pre post : List AV} {t : AD} : (ze o pre post t).map (·.1) = o :: t.arrs.map (·.1) := rfl
theorem AD.write {σ : Store} (s : ByteArray) : ∀ (p : List Int) (t u : AD) (o : Nat) (pre post : List AV), HasU σ (ze o pre post t) → ((ze o pre post t).map (·.1)).Nodup → t.sub p = some u →
  ∃ cells, σ.objs[(AD.loc (o, pre.length) t p).1]? = some (.arr cells) ∧ (AD.loc (o, pre.length) t p).2 + 4 ≤ cells.length ∧
   ({ σ with objs := σ.objs.set (AD.loc (o, pre.length) t p).1 (.arr (overlay cells ((AD.loc (o, pre.length) t p).2 + 2) [.pv (.str s)])) } : Store) = updS σ (ze o pre post (t.setText p s))
 | [], .mk k n tx o' l, u, o, pre, post, h, hn, hu => by
  refine ⟨_, h _ (List.mem_cons_self), by simp [AD.loc, AD.cells_len], ?_⟩
  have hself : ∀ (X : AObj), yK (σ.objs.set o X) (AD.mk k n tx o' l).arrs = σ.objs.set o X := fun X => by
   refine yaC fun q hq => ?_
   rw [List.getElem?_set_ne]
   ·exact h q (List.mem_cons_of_mem _ hq)
   ·rintro rfl
    rw [zV] at hn
    exact (List.nodup_cons.1 hn).1 (List.mem_map.2 ⟨q, hq, rfl⟩)
  unfold updS ze
  simp only [AD.loc, yK, AD.setText]
  rw [show (AD.mk k n s o' l).arrs = (AD.mk k n tx o' l).arrs from rfl, hself]
  congr 3
  simp [overlay, AD.cells, List.take_append, List.drop_append]
  rw [List.take_of_length_le (by omega), List.drop_of_length_le (by omega), show pre.length + 2 + 1 - pre.length = 3 by omega]; rfl
 | i :: p, .mk k n tx o' l, u, o, pre, post, h, hn, hu => by
  simp only [AD.sub] at hu
  split at hu
  ·obtain ⟨c, hc, hu⟩ := Option.bind_eq_some_iff.1 hu
   simp only [AD.kids] at hc
   obtain ⟨h1, h2⟩ := ybr (c' := c.setText p s) hc
   have hne : l ≠ [] := by intro e; rw [e] at hc; simp at hc
   have hl : ((l.take i.toNat).flatMap AD.cells).length = i.toNat * 4 := by
    rw [zH, List.length_take, Nat.min_eq_left (Nat.le_of_lt (List.getElem?_eq_some_iff.1 hc).1)]; omega
   generalize hA : l.take i.toNat = A at *
   generalize hB : l.drop (i.toNat + 1) = B at *
   have hrow : (AD.mk k n tx o' l).arrs = (o', .arr (A.flatMap AD.cells ++ c.cells ++ B.flatMap AD.cells)) :: (A.flatMap AD.arrs ++ c.arrs ++ B.flatMap AD.arrs) := by
    rw [AD.arrs, ZD hne, AD.arrss_flat, h1]; simp
   have hset : (AD.mk k n tx o' l).setText (i :: p) s = .mk k n tx o' (A ++ c.setText p s :: B) := by
    simp only [AD.setText, hc, h2]
   have hrow' : ((AD.mk k n tx o' l).setText (i :: p) s).arrs = (o', .arr (A.flatMap AD.cells ++ (c.setText p s).cells ++ B.flatMap AD.cells)) :: (A.flatMap AD.arrs ++ (c.setText p s).arrs ++ B.flatMap AD.arrs) := by
    rw [hset, AD.arrs, ZD (by simp), AD.arrss_flat]; simp
   have hcells : ((AD.mk k n tx o' l).setText (i :: p) s).cells = (AD.mk k n tx o' l).cells := by
    rw [hset, AD.cells, AD.cells, yi4 (l := A ++ c.setText p s :: B) (r := l)]
    rw [h1]; simp
   have hsub : ∀ q, q ∈ ze o' (A.flatMap AD.cells) (B.flatMap AD.cells) c → q ∈ ze o pre post (AD.mk k n tx o' l) := by
    intro q hq
    refine List.mem_cons_of_mem _ ?_
    rw [hrow]
    rcases List.mem_cons.1 hq with rfl | hq
    ·exact List.mem_cons_self
    ·exact List.mem_cons_of_mem _ (List.mem_append_left _ (List.mem_append_right _ hq))
   have hkeys : (ze o pre post (AD.mk k n tx o' l)).map (·.1) = o :: o' :: ((A.flatMap AD.arrs).map (·.1) ++ c.arrs.map (·.1) ++ (B.flatMap AD.arrs).map (·.1)) := by
    rw [zV, hrow]; simp
   rw [hkeys] at hn
   have hn1 := List.nodup_cons.1 hn
   have hn2 := List.nodup_cons.1 hn1.2
   have hn3 := List.nodup_append.1 hn2.2
   have hn4 := List.nodup_append.1 hn3.1
   have hnc : ((ze o' (A.flatMap AD.cells) (B.flatMap AD.cells) c).map (·.1)).Nodup := by
    rw [zV]
    exact List.nodup_cons.2 ⟨fun hm => hn2.1 (List.mem_append_left _ (List.mem_append_right _ hm)), hn4.2.1⟩
   obtain ⟨cells, k1, k2, k3⟩ := AD.write s p c u o' (A.flatMap AD.cells) (B.flatMap AD.cells) (fun q hq => h q (hsub q hq)) hnc hu
   rw [hl] at k1 k2 k3
   simp only [AD.loc, AD.kids, hc, AD.o]
   refine ⟨cells, k1, k2, k3.trans ?_⟩
   -- the rest is as it was
   have hkc : (ze o' (A.flatMap AD.cells) (B.flatMap AD.cells) (c.setText p s)).map (·.1) = o' :: c.arrs.map (·.1) := by rw [zV, AD.setText_keys]
   have hnc' : ((ze o' (A.flatMap AD.cells) (B.flatMap AD.cells) (c.setText p s)).map (·.1)).Nodup := by rw [hkc, ← zV (pre := A.flatMap AD.cells) (post := B.flatMap AD.cells)]; exact hnc
   have hkt : (ze o pre post ((AD.mk k n tx o' l).setText (i :: p) s)).map (·.1) = o :: o' :: ((A.flatMap AD.arrs).map (·.1) ++ c.arrs.map (·.1) ++ (B.flatMap AD.arrs).map (·.1)) := by
    rw [zV, AD.setText_keys, ← zV (pre := pre) (post := post), hkeys]
   unfold updS
   congr 1
   refine (yaW (by rw [hkt]; exact hn) (by rw [zt]) (fun q hq => ?_) (fun j hj => ?_)).symm
   ·have old : q ∈ ze o pre post (AD.mk k n tx o' l) → q.1 ∉ (ze o' (A.flatMap AD.cells) (B.flatMap AD.cells) (c.setText p s)).map (·.1) → (yK σ.objs (ze o' (A.flatMap AD.cells) (B.flatMap AD.cells) (c.setText p s)))[q.1]? = some q.2 := fun h3 h4 => by
     rw [zr h4]; exact h q h3
    have new : q ∈ ze o' (A.flatMap AD.cells) (B.flatMap AD.cells) (c.setText p s) → (yK σ.objs (ze o' (A.flatMap AD.cells) (B.flatMap AD.cells) (c.setText p s)))[q.1]? = some q.2 := fun h3 => by
     refine YJ hnc' h3 ?_
     have hm : q.1 ∈ (ze o' (A.flatMap AD.cells) (B.flatMap AD.cells) c).map (·.1) := by rw [zV, ← hkc]; exact List.mem_map.2 ⟨q, h3, rfl⟩
     obtain ⟨q', hq', e⟩ := List.mem_map.1 hm
     rw [← e]
     exact (List.getElem?_eq_some_iff.1 (h q' (hsub q' hq'))).1
    unfold ze at hq
    rw [hrow', hcells] at hq
    rcases List.mem_cons.1 hq with rfl | hq
    ·refine old (List.mem_cons_self) ?_
     rw [hkc]
     intro hm
     refine hn1.1 ?_
     rcases List.mem_cons.1 hm with e | hm
     ·rw [show o = o' from e]; exact List.mem_cons_self
     ·exact List.mem_cons_of_mem _ (List.mem_append_left _ (List.mem_append_right _ hm))
    ·rcases List.mem_cons.1 hq with rfl | hq
     ·exact new List.mem_cons_self
     ·rcases List.mem_append.1 hq with hq | hq
      ·rcases List.mem_append.1 hq with hq | hq
       ·have hm1 : q.1 ∈ (A.flatMap AD.arrs).map (·.1) := List.mem_map.2 ⟨q, hq, rfl⟩
        refine old (List.mem_cons_of_mem _ (by rw [hrow]; exact List.mem_cons_of_mem _ (List.mem_append_left _ (List.mem_append_left _ hq)))) ?_
        rw [hkc]
        intro hm
        rcases List.mem_cons.1 hm with e | hm
        ·exact hn2.1 (by rw [← e]; exact List.mem_append_left _ (List.mem_append_left _ hm1))
        ·exact hn4.2.2 _ hm1 _ hm rfl
       ·exact new (List.mem_cons_of_mem _ hq)
      ·have hm1 : q.1 ∈ (B.flatMap AD.arrs).map (·.1) := List.mem_map.2 ⟨q, hq, rfl⟩
       refine old (List.mem_cons_of_mem _ (by rw [hrow]; exact List.mem_cons_of_mem _ (List.mem_append_right _ hq))) ?_
       rw [hkc]
       intro hm
       rcases List.mem_cons.1 hm with e | hm
       ·exact hn2.1 (by rw [← e]; exact List.mem_append_right _ hm1)
       ·exact hn3.2.2 _ (List.mem_append_right _ hm) _ hm1 rfl
   ·rw [hkt] at hj
    rw [zr]
    rw [hkc]
    intro hm
    apply hj
    rcases List.mem_cons.1 hm with e | hm
    ·rw [e]; exact List.mem_cons_of_mem _ List.mem_cons_self
    ·exact List.mem_cons_of_mem _ (List.mem_cons_of_mem _ (List.mem_append_left _ (List.mem_append_right _ hm)))
  ·cases hu
def Ym (ob : Nat) (t : AD) : List (Nat × AObj) := (ob, .arr t.cells) :: t.arrs
theorem Yk (ob : Nat) (t : AD) : Ym ob t = ze ob [] [] t := by simp [Ym, ze]
theorem ZZ (ob : Nat) (t : AD) : (Ym ob t).map (·.1) = ob :: t.arrs.map (·.1) := rfl
end Go.Aw

namespace Go.Aw
open Go
section
variable {β : Type} {S : Type} (eb : β → PV)
def yH : List (ByteArray × β) → PV
 | [] => .nilp
 | q :: r => .ptr (.str q.1 :: (eb q.2).cells ++ [yH r])
theorem ybA {l : List (ByteArray × β)} {k : Nat} {x : ByteArray × β} (h : l[k]? = some x) : yH eb (l.drop k) = .ptr (.str x.1 :: (eb x.2).cells ++ [yH eb (l.drop (k + 1))]) := by
 obtain ⟨hk, rfl⟩ := List.getElem?_eq_some_iff.1 h
 rw [List.drop_eq_getElem_cons hk]; rfl
theorem ydZ (l : List (ByteArray × β)) (k : Nat) : (AV.pv (yH eb (l.drop k)) = .pv .nilp ∧ decide (k < l.length) = false) ∨ ∃ ps, AV.pv (yH eb (l.drop k)) = .pv (.ptr ps) ∧ decide (k < l.length) = true := by
 by_cases h : k < l.length
 ·refine .inr ⟨_, congrArg AV.pv (ybA eb (x := l[k]) (by simp [h])), by simpa using h⟩
 ·refine .inl ⟨?_, by simpa using h⟩
  rw [List.drop_of_length_le (by omega)]; rfl
@[go_sem] theorem yr4 (l : List (ByteArray × β)) : (AV.pv (yH eb l)).cells = some [.pv (yH eb l)] := by cases l <;> rfl
@[go_sem] theorem ysE (l : List (ByteArray × β)) : PV.nrm (yH eb l) = yH eb l := by cases l <;> rfl
@[go_sem] theorem ysL (l : List (ByteArray × β)) : (yH eb l).cells = [yH eb l] := by cases l <;> rfl
def zl (sc : List (ByteArray × β)) (x : ByteArray) : Option β := (sc.find? fun q => decide (q.1 = x)).map (·.2)
def yw (sc : List (ByteArray × β)) (ns : List ByteArray) (bs : List β) : List (ByteArray × β) := (ns.zip bs).reverse ++ sc
theorem ygn {ns : List ByteArray} {bs : List β} {sc : List (ByteArray × β)} {k : Nat} {x : ByteArray} {b : β} (h : ns[k]? = some x) (hb : bs[k]? = some b) :
  PV.ptr (.str x :: (eb b).cells ++ [yH eb (yw sc (ns.take k) (bs.take k))]) = yH eb (yw sc (ns.take (k + 1)) (bs.take (k + 1))) := by
 have hl : (ns.take k).length = (bs.take k).length := by
  have h1 := (List.getElem?_eq_some_iff.1 h).1
  have h2 := (List.getElem?_eq_some_iff.1 hb).1
  simp; omega
 unfold yw
 rw [yI h, yI hb, List.zip_append hl, List.reverse_append]; rfl

variable (nam : D → List Int → List ByteArray → Int → S → List β × S) (vari : D → List Int → Option β → S → S)
def wk : D → List Int → List (ByteArray × β) → S → S :=
 scata (fun d rs p sc s =>
  if (yb d == 2) = true then vari d p (zl sc d.text) s
  else if (yb d == 5 || yb d == 9) = true then
   match rs with
   | [q] => let r := nam d p (ownS d) 0 s; q.2 (p ++ q.1.p) (yw sc (ownS d) r.1) r.2
   | _ => s
  else if (yb d == 6) = true then
   match rs with
   | [q, q'] => let r := nam d p (ownS d) 0 s; q'.2 (p ++ q'.1.p) (yw sc (ownS d) r.1) (q.2 (p ++ q.1.p) sc r.2)
   | _ => s
  else if (yb d == 7) = true then
   let r := nam d p (ownS d) 0 s
   let inn := yw sc (ownS d) r.1
   let s' := ((d1 d.kids).kids.zip rs).zipIdx.foldl (fun s q =>
    let r2 := nam d p (parS q.1.1) (yR (d1 d.kids).kids q.2) s
    q.1.2.2 (p ++ q.1.2.1.p) (yw inn (parS q.1.1) r2.1) r2.2) r.2
   match rs.getLast? with
   | some q => q.2 (p ++ q.1.p) inn s'
   | none => s'
  else rs.foldl (fun s q => q.2 (p ++ q.1.p) sc s) s)
theorem yge (d : D) (p : List Int) (sc : List (ByteArray × β)) (s : S) : wk nam vari d p sc s =
  if (yb d == 2) = true then vari d p (zl sc d.text) s
  else if (yb d == 5 || yb d == 9) = true then
   match (subs d).map fun q => (q.1, wk nam vari q.2) with
   | [q] => let r := nam d p (ownS d) 0 s; q.2 (p ++ q.1.p) (yw sc (ownS d) r.1) r.2
   | _ => s
  else if (yb d == 6) = true then
   match (subs d).map fun q => (q.1, wk nam vari q.2) with
   | [q, q'] => let r := nam d p (ownS d) 0 s; q'.2 (p ++ q'.1.p) (yw sc (ownS d) r.1) (q.2 (p ++ q.1.p) sc r.2)
   | _ => s
  else if (yb d == 7) = true then
   let r := nam d p (ownS d) 0 s
   let inn := yw sc (ownS d) r.1
   let s' := ((d1 d.kids).kids.zip ((subs d).map fun q => (q.1, wk nam vari q.2))).zipIdx.foldl (fun s q =>
    let r2 := nam d p (parS q.1.1) (yR (d1 d.kids).kids q.2) s
    q.1.2.2 (p ++ q.1.2.1.p) (yw inn (parS q.1.1) r2.1) r2.2) r.2
   match ((subs d).map fun q => (q.1, wk nam vari q.2)).getLast? with
   | some q => q.2 (p ++ q.1.p) inn s'
   | none => s'
  else ((subs d).map fun q => (q.1, wk nam vari q.2)).foldl (fun s q => q.2 (p ++ q.1.p) sc s) s := by
 show scata (β := List Int → List (ByteArray × β) → S → S) _ d p sc s = _
 rw [ZB]; rfl
theorem yco {d : D} {p : List Int} {sc : List (ByteArray × β)} {s : S} (h : yb d = 2) : wk nam vari d p sc s = vari d p (zl sc d.text) s := by
 rw [yge, if_pos (by simpa using h)]
theorem ycC {d : D} {p : List Int} {sc : List (ByteArray × β)} {s : S} (h : yb d = 5 ∨ yb d = 9) :
  wk nam vari d p sc s = wk nam vari (d2 d.kids) (p ++ [2]) (yw sc (ownS d) (nam d p (ownS d) 0 s).1) (nam d p (ownS d) 0 s).2 := by
 rw [yge, if_neg (by simp; omega), if_pos (by simpa using h), yU h]; rfl
theorem ydU {d : D} {p : List Int} {sc : List (ByteArray × β)} {s : S} (h : yb d = 6) :
  wk nam vari d p sc s = wk nam vari (d.kids.getD 3 dnone) (p ++ [3]) (yw sc (ownS d) (nam d p (ownS d) 0 s).1) (wk nam vari (d2 d.kids) (p ++ [2]) sc (nam d p (ownS d) 0 s).2) := by
 rw [yge, if_neg (by simp; omega), if_neg (by simp; omega), if_pos (by simpa using h), yM h]; rfl
def wkd (d : D) (p : List Int) (inn : List (ByteArray × β)) (k : Nat) (s : S) : S :=
 ((d1 d.kids).kids.take k).zipIdx.foldl (fun s q =>
  let r := nam d p (parS q.1) (yR (d1 d.kids).kids q.2) s
  wk nam vari (d2 q.1.kids) (p ++ [1, (q.2 : Int), 2]) (yw inn (parS q.1) r.1) r.2) s
theorem yaj {d : D} {p : List Int} {inn : List (ByteArray × β)} {k : Nat} {s : S} {x : D} (h : (d1 d.kids).kids[k]? = some x) :
  wkd nam vari d p inn (k + 1) s = wk nam vari (d2 x.kids) (p ++ [1, (k : Int), 2]) (yw inn (parS x) (nam d p (parS x) (yR (d1 d.kids).kids k) (wkd nam vari d p inn k s)).1) (nam d p (parS x) (yR (d1 d.kids).kids k) (wkd nam vari d p inn k s)).2 := by
 have hk := (List.getElem?_eq_some_iff.1 h).1
 unfold wkd
 rw [yI h, List.zipIdx_append, List.foldl_append]
 have e : ([x] : List D).zipIdx (0 + ((d1 d.kids).kids.take k).length) = [(x, k)] := by simp; omega
 rw [e]; rfl
theorem ycz {γ : Type} (f : D → Nat → γ) : ∀ (l : List D) (n : Nat) (r : List γ), (l.zip ((l.zipIdx n).map (fun q => f q.1 q.2) ++ r)) = (l.zipIdx n).map fun q => (q.1, f q.1 q.2)
 | [], n, r => by simp
 | x :: l, n, r => by simp [List.zipIdx_cons, ycz f l (n + 1) r]
theorem ybK {γ : Type} (g : D × Nat → γ) : ∀ (l : List D) (n : Nat), ((l.zipIdx n).map g).zipIdx n = (l.zipIdx n).map fun q => (g q, q.2)
 | [], n => by simp
 | x :: l, n => by simp [List.zipIdx_cons, ybK g l (n + 1)]
theorem yex {γ : Type} (f : Nat → D → γ) (l : List D) : mapI f l = (l.zipIdx 0).map fun q => f q.2 q.1 := by
 apply List.ext_getElem?
 intro i
 rw [zC, List.getElem?_map, List.getElem?_zipIdx]
 cases l[i]? <;> simp
theorem ydW {d : D} {p : List Int} {sc : List (ByteArray × β)} {s : S} (h : yb d = 7) :
  wk nam vari d p sc s = wk nam vari (d2 d.kids) (p ++ [2]) (yw sc (ownS d) (nam d p (ownS d) 0 s).1) (wkd nam vari d p (yw sc (ownS d) (nam d p (ownS d) 0 s).1) (d1 d.kids).kids.length (nam d p (ownS d) 0 s).2) := by
 rw [yge, if_neg (by simp; omega), if_neg (by simp; omega), if_neg (by simp; omega), if_pos (by simpa using h), zd h]
 simp only [List.map_append, List.map_cons, List.map_nil, List.getLast?_append, List.getLast?_singleton, Option.or_some, Option.some_or, yex, List.map_map]
 rw [show ((fun (q : Sub × D) => (q.1, wk nam vari q.2)) ∘ fun (q : D × Nat) => subR d q.2 q.1) = fun q => ((fun (x : D) (i : Nat) => ((subR d i x).1, wk nam vari (subR d i x).2)) q.1 q.2) from rfl]
 rw [ycz (fun (x : D) (i : Nat) => ((subR d i x).1, wk nam vari (subR d i x).2)), ybK, List.foldl_map]
 unfold wkd
 rw [List.take_length]; rfl
def wks (d : D) (p : List Int) (sc : List (ByteArray × β)) (k : Nat) (s : S) : S := ((subs d).take k).foldl (fun s q => wk nam vari q.2 (p ++ q.1.p) sc s) s
theorem yai {d : D} {p : List Int} {sc : List (ByteArray × β)} {k : Nat} {s : S} {q : Sub × D} (h : (subs d)[k]? = some q) : wks nam vari d p sc (k + 1) s = wk nam vari q.2 (p ++ q.1.p) sc (wks nam vari d p sc k s) := by
 unfold wks
 rw [yI h, List.foldl_append]; rfl
theorem ycv {d : D} {p : List Int} {sc : List (ByteArray × β)} {s : S} (h : yb d ≠ 2 ∧ yb d ≠ 5 ∧ yb d ≠ 9 ∧ yb d ≠ 6 ∧ yb d ≠ 7) : wks nam vari d p sc (subs d).length s = wk nam vari d p sc s := by
 rw [yge, if_neg (by simp; omega), if_neg (by simp; omega), if_neg (by simp; omega), if_neg (by simp; omega), List.foldl_map]
 unfold wks
 rw [List.take_length]
end
inductive NmOk (d : D) : List ByteArray → Int → Prop where
 | own (h : yb d = 5 ∨ yb d = 9 ∨ yb d = 6 ∨ yb d = 7) : NmOk d (ownS d) 0
 | par (h : yb d = 7) {k : Nat} {x : D} (hx : (d1 d.kids).kids[k]? = some x) : NmOk d (parS x) (yR (d1 d.kids).kids k)
theorem yfY {σ : Store} {U V : List (Nat × AObj)} {ks : List Nat} (hu : U.map (·.1) = ks) (hv : V.map (·.1) = ks) (hn : ks.Nodup) : updS (updS σ U) V = updS σ V :=
 yon (by rw [hv]; exact hn) (by rw [hu, hv]; exact fun _ h => h)
theorem ydN {β : Type} {l : List (ByteArray × β)} {x : ByteArray} {k : Nat} {y : ByteArray × β} (hn : NotYet (fun y : ByteArray × β => decide (y.1 = x)) l k) (hy : l[k]? = some y) (h : decide (y.1 = x) = true) : zl l x = some y.2 := by
 unfold zl
 obtain ⟨hk, he⟩ := List.getElem?_eq_some_iff.1 hy
 have : l.find? (fun q => decide (q.1 = x)) = some y := by
  rw [List.find?_eq_some_iff_getElem]
  refine ⟨h, k, hk, he, fun j hj => ?_⟩
  have := hn j l[j] hj (by simp)
  simpa using this
 rw [this]; rfl
theorem yeG {β : Type} {l : List (ByteArray × β)} {x : ByteArray} (h : l.any (fun y => decide (y.1 = x)) = false) : zl l x = none := by
 unfold zl
 have : l.find? (fun q => decide (q.1 = x)) = none := by
  rw [List.find?_eq_none]
  intro y hy
  rw [List.any_eq_false] at h
  exact h y hy
 rw [this]; rfl
theorem Z2 {l : List D} {k : Nat} {x : D} (h : l[k]? = some x) : yR l (k + 1) = yR l k + ((parS x).length : Int) := by
 unfold yR parS
 rw [yI h, List.map_append, List.sum_append]
 simp; omega
theorem yaV (l : List D) : yR l 0 = (l.length : Int) := by simp [yR]
theorem ykq (x : D) : (parS x).length ≤ x.size := by
 unfold parS
 rw [List.length_map]
 have h1 := D.kids_length_lt (d1 x.kids)
 by_cases h : 1 < x.kids.length
 ·have h2 : (d1 x.kids).size < x.size := D.size_kid_lt (Yw (n := 1) h)
  omega
 ·have h2 : d1 x.kids = dnone := by
   show x.kids.getD 1 dnone = dnone
   rw [List.getD_eq_getElem?_getD, List.getElem?_eq_none (by omega)]; rfl
  rw [h2]; simp [dnone, D.kids]
theorem Y3 (l : List D) : ∀ k, k ≤ l.length → 0 ≤ yR l k ∧ yR l k ≤ (l.length : Int) + (D.sizes l : Int) := by
 intro k hk
 have key : ∀ (l : List D), 0 ≤ (l.map fun x => ((d1 x.kids).kids.length : Int)).sum ∧ (l.map fun x => ((d1 x.kids).kids.length : Int)).sum ≤ (D.sizes l : Int) := by
  intro l
  induction l with
  | nil => simp [D.sizes]
  | cons x l ih =>
   have := ykq x
   unfold parS at this
   rw [List.length_map] at this
   simp only [List.map_cons, List.sum_cons, D.sizes]
   omega
 have h1 := key (l.take k)
 have h2 : ∀ (l : List D) (k : Nat), D.sizes (l.take k) ≤ D.sizes l := by
  intro l
  induction l with
  | nil => intro k; simp
  | cons x l ih =>
   intro k
   cases k with
   | zero => simp [D.sizes]
   | succ k => have := ih k; simp [D.sizes]; omega
 have h3 := h2 l k
 unfold yR
 omega
def ncnt : D → Nat := scata (fun d rs => (ownS d).length + (if (yb d == 7) = true then ((d1 d.kids).kids.map fun x => (parS x).length).sum else 0) + (rs.map (·.2)).sum)
theorem yce (d : D) : ncnt d = (ownS d).length + (if (yb d == 7) = true then ((d1 d.kids).kids.map fun x => (parS x).length).sum else 0) + ((subs d).map fun q => ncnt q.2).sum := by
 show scata (β := Nat) _ d = _
 rw [ZB, List.map_map]; rfl
def ncd (d : D) (k : Nat) : Nat := (((d1 d.kids).kids.take k).map fun x => (parS x).length + ncnt (d2 x.kids)).sum
def ncs (d : D) (k : Nat) : Nat := (((subs d).take k).map fun q => ncnt q.2).sum
theorem yc4 {d : D} {k : Nat} {x : D} (h : (d1 d.kids).kids[k]? = some x) : ncd d (k + 1) = ncd d k + (parS x).length + ncnt (d2 x.kids) := by
 unfold ncd
 rw [yI h, List.map_append, List.sum_append]; simp; omega
theorem ycW {d : D} {k : Nat} {q : Sub × D} (h : (subs d)[k]? = some q) : ncs d (k + 1) = ncs d k + ncnt q.2 := by
 unfold ncs
 rw [yI h, List.map_append, List.sum_append]; simp
theorem ydl {α : Type} (f : α → Nat) (l : List α) (k : Nat) : ((l.take k).map f).sum ≤ (l.map f).sum := by
 conv => rhs; rw [← List.take_append_drop k l, List.map_append, List.sum_append]
 omega
theorem yiL (d : D) (k : Nat) : ncd d k ≤ ncd d (d1 d.kids).kids.length := by unfold ncd; rw [List.take_length]; exact ydl _ _ _
theorem yjl (d : D) (k : Nat) : ncs d k ≤ ncs d (subs d).length := by unfold ncs; rw [List.take_length]; exact ydl _ _ _
theorem ycq {d : D} (h : yb d = 5 ∨ yb d = 9) : ncnt d = (ownS d).length + ncnt (d2 d.kids) := by
 rw [yce, if_neg (by simp; omega), yU h]; simp [subL]
theorem yff {d : D} (h : yb d = 6) : ncnt d = (ownS d).length + ncnt (d2 d.kids) + ncnt (d.kids.getD 3 dnone) := by
 rw [yce, if_neg (by simp; omega), yM h]; simp [subL]; omega
theorem yjT {α : Type} (f g : α → Nat) (l : List α) : (l.map fun x => f x + g x).sum = (l.map f).sum + (l.map g).sum := by
 induction l with
 | nil => rfl
 | cons a l ih => simp [ih]; omega
theorem yn3 {α : Type} (f : Nat → α → Sub × D) (g : α → Nat) (hf : ∀ i x, ncnt (f i x).2 = g x) (l : List α) : ((mapI f l).map fun q => ncnt q.2).sum = (l.map g).sum := by
 have : ((mapI f l).map fun q => ncnt q.2) = l.map g := by
  apply List.ext_getElem?
  intro i
  rw [List.getElem?_map, zC, List.getElem?_map]
  cases l[i]? with
  | none => rfl
  | some x => simp [hf]
 rw [this]
theorem yfc {d : D} (h : yb d = 7) : ncnt d = (ownS d).length + ncd d (d1 d.kids).kids.length + ncnt (d2 d.kids) := by
 rw [yce, if_pos (by simpa using h), zd h, List.map_append, List.sum_append, yn3 (subR d) (fun x => ncnt (d2 x.kids)) (fun _ _ => rfl)]
 unfold ncd
 rw [List.take_length, yjT]
 simp [subL]; omega
theorem ybI {d : D} (h : yb d ≠ 5 ∧ yb d ≠ 9 ∧ yb d ≠ 6 ∧ yb d ≠ 7) : ncnt d = ncs d (subs d).length := by
 rw [yce, if_neg (by simp; omega)]
 have : ownS d = [] := by unfold ownS; rw [if_neg (by simp; omega), if_neg (by simp; omega), if_neg (by simp; omega), if_neg (by simp; omega)]
 rw [this]
 unfold ncs
 rw [List.take_length]; simp
structure WkH (P : Program) (G : List (Nat × PV)) {β S : Type} (eb : β → PV) (zero : PV) (U : S → List (Nat × AObj)) (ks : List Nat) (X : List (Nat × AObj)) (ow : Nat) (nf : FuncId) (nc : List AV) (vf : FuncId) (vc : List AV)
  (nam : D → List Int → List ByteArray → Int → S → List β × S) (vari : D → List Int → Option β → S → S) (Ok : D → List Int → Prop) (Good : Nat → S → Prop) : Prop where
 hks : ∀ s, (U s).map (·.1) = ks
 hnd : ks.Nodup
 hX : ∀ q, q ∈ X → q.1 ∉ ks
 hw : (ow, .box [.func (.func nf) nc, .func (.func vf) vc]) ∈ X
 cn : Callable P nf
 cv : Callable P vf
 nln : AV.noLs nc = true
 nlv : AV.noLs vc = true
 hcl : ∀ s no nt, (∀ i, i ∈ ks → i < no) → ∀ q, q ∈ U s → q.2.clo no nt 0 = true
 hOk : ∀ d p q, Ok d p → q ∈ subs d → Ok q.2 (p ++ q.1.p)
 gl : ∀ d p ns n s, (nam d p ns n s).1.length = ns.length
 gn : ∀ d p ns n m s, Ok d p → Good m s → NmOk d ns n → Good (m + ns.length) (nam d p ns n s).2
 gv : ∀ d p b m s, Ok d p → Good m s → yb d = 2 → Good m (vari d p b s)
 hn : ∀ d p ns n m s σ, d.size ≤ 100000000 → p.length ≤ 400000000 → Ok d p → Good m s → m + ns.length ≤ 1000000000 → NmOk d ns n → σ.gl = G → HasU σ (U s) → HasU σ X →
  ACalls P nf ([.pv (enc d), .pv (wPV p), .pv (.slice (ns.map .str)), .pv (.int .i64 n)] ++ nc) σ fun r σ' => r = .pv (.slice ((nam d p ns n s).1.map eb)) ∧ σ' = updS σ (U (nam d p ns n s).2)
 hv : ∀ d p b m s σ, d.size ≤ 100000000 → p.length ≤ 400000000 → Ok d p → Good m s → yb d = 2 → σ.gl = G → HasU σ (U s) → HasU σ X →
  ACalls P vf ([.pv (enc d), .pv (wPV p), .pv ((b.map eb).getD zero), .pv (.bool b.isSome)] ++ vc) σ fun r σ' => r = .tuple [] ∧ σ' = updS σ (U (vari d p b s))
section
variable {P : Program} {G : List (Nat × PV)} {β S : Type} {eb : β → PV} {zero : PV} {U : S → List (Nat × AObj)} {ks : List Nat} {X : List (Nat × AObj)} {ow : Nat} {nf : FuncId} {nc : List AV} {vf : FuncId} {vc : List AV}
 {nam : D → List Int → List ByteArray → Int → S → List β × S} {vari : D → List Int → Option β → S → S} {Ok : D → List Int → Prop} {Good : Nat → S → Prop} (H : WkH P G eb zero U ks X ow nf nc vf vc nam vari Ok Good)
include H
theorem WkH.lt {σ : Store} {s : S} (h : HasU σ (U s)) {i : Nat} (hi : i ∈ ks) : i < σ.objs.length := by
 rw [← H.hks s] at hi
 obtain ⟨q, hq, rfl⟩ := List.mem_map.1 hi
 exact h.lt hq
theorem WkH.has {σ : Store} {s s' : S} (h : HasU σ (U s)) : HasU (updS σ (U s')) (U s') :=
 ycN (by rw [H.hks]; exact H.hnd) (fun q hq => H.lt h (by rw [← H.hks s']; exact List.mem_map.2 ⟨q, hq, rfl⟩))
theorem WkH.hasX {σ : Store} {s' : S} (h : HasU σ X) : HasU (updS σ (U s')) X := fun q hq => by
 rw [yb4 (by rw [H.hks]; exact H.hX q hq)]; exact h q hq
theorem WkH.ne {σ : Store} {s' : S} {i : Nat} (h : i ∉ ks) : (updS σ (U s')).objs[i]? = σ.objs[i]? := yb4 (by rw [H.hks]; exact h)
theorem WkH.upd {σ : Store} {s s' : S} : updS (updS σ (U s)) (U s') = updS σ (U s') := yfY (H.hks s) (H.hks s') H.hnd
theorem WkH.mask {σ : Store} {s' : S} {o : Nat} {ob : AObj} (h : (YP ks σ.objs)[o]? = some ob) (hb : ob ≠ .box []) : (updS σ (U s')).objs[o]? = some ob := by
 have := zD h hb
 rw [H.ne this.1]; exact this.2
theorem WkH.ltU {σ : Store} {s s' : S} (h : HasU σ (U s)) {q : Nat × AObj} (hq : q ∈ U s') : q.1 < σ.objs.length := H.lt h (by rw [← H.hks s']; exact List.mem_map.2 ⟨q, hq, rfl⟩)
theorem WkH.good : ∀ (d : D) (p : List Int) (sc : List (ByteArray × β)) (m : Nat) (s : S), Ok d p → Good m s → Good (m + ncnt d) (wk nam vari d p sc s) := by
 intro d
 induction d using D.indS with
 | h d ih =>
  intro p sc m s ho hg
  by_cases h2 : yb d = 2
  ·rw [yco _ _ h2, ybI (by omega), show ncs d (subs d).length = 0 by rw [Yb (by omega)]; rfl]; exact H.gv _ _ _ _ _ ho hg h2
  by_cases h5 : yb d = 5 ∨ yb d = 9
  ·rw [ycC _ _ h5, ycq h5, ← Nat.add_assoc]
   have hq : subL d 2 (d2 d.kids) ∈ subs d := by rw [yU h5]; simp
   exact ih _ hq _ _ _ _ (H.hOk _ _ _ ho hq) (H.gn _ _ _ _ _ _ ho hg (.own (h5.elim .inl fun h => .inr (.inl h))))
  by_cases h6 : yb d = 6
  ·rw [ydU _ _ h6, yff h6, ← Nat.add_assoc, ← Nat.add_assoc]
   have hq : (⟨[2], []⟩, d2 d.kids) ∈ subs d := by rw [yM h6]; simp
   have hq3 : subL d 3 (d.kids.getD 3 dnone) ∈ subs d := by rw [yM h6]; simp
   exact ih _ hq3 _ _ _ _ (H.hOk _ _ _ ho hq3) (ih _ hq _ _ _ _ (H.hOk _ _ _ ho hq) (H.gn _ _ _ _ _ _ ho hg (.own (.inr (.inr (.inl h6))))))
  by_cases h7 : yb d = 7
  ·rw [ydW _ _ h7, yfc h7, ← Nat.add_assoc, ← Nat.add_assoc]
   have hq : subL d 2 (d2 d.kids) ∈ subs d := by rw [zd h7]; simp
   refine ih _ hq _ _ _ _ (H.hOk _ _ _ ho hq) ?_
   have h0 := H.gn _ _ _ _ _ _ ho hg (NmOk.own (.inr (.inr (.inr h7))))
   generalize yw sc (ownS d) (nam d p (ownS d) 0 s).1 = inn
   generalize (nam d p (ownS d) 0 s).2 = s0 at h0
   generalize m + (ownS d).length = m0 at h0
   have key : ∀ k, k ≤ (d1 d.kids).kids.length → Good (m0 + ncd d k) (wkd nam vari d p inn k s0) := by
    intro k
    induction k with
    | zero => intro _; exact h0
    | succ k ihk =>
     intro hk
     have hx : (d1 d.kids).kids[k]? = some ((d1 d.kids).kids[k]'(by omega)) := by simp
     rw [yaj _ _ hx, yc4 hx, ← Nat.add_assoc, ← Nat.add_assoc]
     have hqi := List.mem_of_getElem? (zB h7 hx)
     exact ih _ hqi _ _ _ _ (H.hOk _ _ _ ho hqi) (H.gn _ _ _ _ _ _ ho (ihk (by omega)) (.par h7 hx))
   exact key _ (Nat.le_refl _)
  ·rw [← ycv nam vari (d := d) (p := p) (sc := sc) (s := s) ⟨h2, fun h => h5 (.inl h), fun h => h5 (.inr h), h6, h7⟩, ybI ⟨fun h => h5 (.inl h), fun h => h5 (.inr h), h6, h7⟩]
   have key : ∀ k, k ≤ (subs d).length → Good (m + ncs d k) (wks nam vari d p sc k s) := by
    intro k
    induction k with
    | zero => intro _; exact hg
    | succ k ihk =>
     intro hk
     have hx : (subs d)[k]? = some ((subs d)[k]'(by omega)) := by simp
     rw [yai _ _ hx, ycW hx, ← Nat.add_assoc]
     have hqi := List.mem_of_getElem? hx
     exact ih _ hqi _ _ _ _ (H.hOk _ _ _ ho hqi) (ihk (by omega))
   exact key _ (Nat.le_refl _)
theorem WkH.goodD {d : D} {p : List Int} {inn : List (ByteArray × β)} {m0 : Nat} {s0 : S} (h7 : yb d = 7) (ho : Ok d p) (h0 : Good m0 s0) : ∀ k, k ≤ (d1 d.kids).kids.length → Good (m0 + ncd d k) (wkd nam vari d p inn k s0) := by
 intro k
 induction k with
 | zero => intro _; exact h0
 | succ k ihk =>
  intro hk
  have hx : (d1 d.kids).kids[k]? = some ((d1 d.kids).kids[k]'(by omega)) := by simp
  rw [yaj _ _ hx, yc4 hx, ← Nat.add_assoc, ← Nat.add_assoc]
  have hqi := List.mem_of_getElem? (zB h7 hx)
  exact H.good _ _ _ _ _ (H.hOk _ _ _ ho hqi) (H.gn _ _ _ _ _ _ ho (ihk (by omega)) (.par h7 hx))
theorem WkH.goodS {d : D} {p : List Int} {sc : List (ByteArray × β)} {m0 : Nat} {s0 : S} (ho : Ok d p) (h0 : Good m0 s0) : ∀ k, k ≤ (subs d).length → Good (m0 + ncs d k) (wks nam vari d p sc k s0) := by
 intro k
 induction k with
 | zero => intro _; exact h0
 | succ k ihk =>
  intro hk
  have hx : (subs d)[k]? = some ((subs d)[k]'(by omega)) := by simp
  rw [yai _ _ hx, ycW hx, ← Nat.add_assoc]
  exact H.good _ _ _ _ _ (H.hOk _ _ _ ho (List.mem_of_getElem? hx)) (ihk (by omega))
end
theorem yas {σ : Store} {V : List (Nat × AObj)} {ob : AObj} (h : HasU σ V) {i : Nat} (hi : i ∉ V.map (·.1)) : HasU { σ with objs := σ.objs.set i ob } V := fun q hq => by
 show (σ.objs.set i ob)[q.1]? = _
 rw [List.getElem?_set_ne (by rintro rfl; exact hi (List.mem_map.2 ⟨q, hq, rfl⟩))]; exact h q hq
theorem yfs {X : Store} {V : List (Nat × AObj)} {r : Nat} {a b : AObj} (h : r ∉ V.map (·.1)) (ha : X.objs[r]? = some a) : { updS { X with objs := X.objs.set r b } V with objs := ((updS { X with objs := X.objs.set r b } V).objs).set r a } = updS X V := by
 have key : (yK (X.objs.set r b) V).set r a = yK X.objs V := by
  apply List.ext_getElem?
  intro i
  by_cases hi : i = r
  ·subst hi
   have hl := (List.getElem?_eq_some_iff.1 ha).1
   rw [List.getElem?_set_self (by rw [zt]; simpa using hl), zr h, ha]
  ·rw [List.getElem?_set_ne (fun e => hi e.symm)]
   have : ∀ (V : List (Nat × AObj)) (l m : List AObj), l[i]? = m[i]? → l.length = m.length → (yK l V)[i]? = (yK m V)[i]? := by
    intro V
    induction V with
    | nil => intro l m h _; exact h
    | cons q V ih =>
     intro l m h hl
     rw [yK, yK]
     refine ih _ _ ?_ (by simp [hl])
     rw [List.getElem?_set, List.getElem?_set, h, hl]
   exact this V _ _ (by rw [List.getElem?_set_ne (fun e => hi e.symm)]) (by simp)
 show (⟨X.gl, (yK (X.objs.set r b) V).set r a, X.toks⟩ : Store) = ⟨X.gl, yK X.objs V, X.toks⟩
 rw [key]
theorem ydv {τ σ : Store} {i : Nat} {ob : AObj} {Y : Store} (hi : σ.objs.length ≤ i) (h : τ.cut σ.objs.length σ.toks.length = Y) : (⟨τ.gl, τ.objs.set i ob, τ.toks⟩ : Store).cut σ.objs.length σ.toks.length = Y := by
 rw [← h]
 unfold Store.cut
 simp only
 rw [List.take_set_of_le hi]
theorem yiX {P : Program} {f : FuncId} {args : List AV} {σ : Store} {r0 : AV} {V : List (Nat × AObj)} (hV : ∀ q, q ∈ V → q.2.clo σ.objs.length σ.toks.length 0 = true) (hr : cloT σ.objs.length σ.toks.length r0 = true) (hrn : WVt σ.objs.length σ.toks.length 0 r0 r0)
  (h : ACalls P f args σ fun r σ' => r = r0 ∧ σ'.cut σ.objs.length σ.toks.length = updS σ V) : ACalls P f args σ fun r σ' => r = r0 ∧ σ' = updS σ V := by
 refine h.less fun r σ' ⟨h1, h2⟩ => ⟨_, _, r0, by subst h1; exact hrn, Nat.le_refl _, Nat.le_refl _, fun ob hob => ?_, rfl, h2⟩
 have : σ'.objs.take σ.objs.length = (updS σ V).objs := congrArg Store.objs h2
 rw [this] at hob
 rcases ZT hob with h | ⟨q, hq, rfl⟩
 ·exact .inl h
 ·exact .inr (hV q hq)
theorem ya3 {P : Program} {f : FuncId} {args : List AV} {σ : Store} {r0 : AV} {V : List (Nat × AObj)} (hV : ∀ q, q ∈ V → q.2.clo σ.objs.length σ.toks.length 0 = true)
  (h : ACalls P f args σ fun r σ' => WVt σ.objs.length σ.toks.length 0 r r0 ∧ σ'.cut σ.objs.length σ.toks.length = updS σ V) : ACalls P f args σ fun r σ' => r = r0 ∧ σ' = updS σ V := by
 refine h.less fun r σ' ⟨h1, h2⟩ => ⟨_, _, r0, h1, Nat.le_refl _, Nat.le_refl _, fun ob hob => ?_, rfl, h2⟩
 have : σ'.objs.take σ.objs.length = (updS σ V).objs := congrArg Store.objs h2
 rw [this] at hob
 rcases ZT hob with h | ⟨q, hq, rfl⟩
 ·exact .inl h
 ·exact .inr (hV q hq)
end Go.Aw
