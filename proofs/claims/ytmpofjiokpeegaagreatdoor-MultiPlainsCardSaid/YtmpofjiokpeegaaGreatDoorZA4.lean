/- Part of the proof that the statement holds for every input that its row lets in: an own logic of abstract values over the given model, and laws of data and programs; no program is named in it. -/
import Derived.Test.YtmpofjiokpeegaaGreatDoorZA3
import Derived.Test.YtmpofjiokpeegaaGreatDoorZA2
import Derived.ProofKit
import Derived.LaidMore
import Derived.OpenShut
import Derived.Stop.Joined
import Derived.LaidLaws
set_option linter.unusedSimpArgs false
set_option linter.unusedVariables false
/- Terms of layer 25 (five): sets of names. No program is named. -/
namespace Go.Aw
open Go
def tK (S : List ByteArray) : List PV := S.map .str
def tV (S : List ByteArray) : List PV := S.map fun _ => .bool true
def addS (S : List ByteArray) (x : ByteArray) : List ByteArray := if memB S x = true then S else S ++ [x]
def setS (σ : Store) (o : Nat) (S : List ByteArray) : Store := { σ with objs := σ.objs.set o (.map (tK S) (tV S)) }
theorem kfind_tK (x : ByteArray) : ∀ S : List ByteArray, kfind (.str x) (tK S) = S.findIdx? fun y => decide (x = y)
  | [] => rfl
  | y :: S => by
    have hk : (PV.str x).keq (.str y) = decide (x = y) := by simp [PV.keq, pvAtomEq]
    have ih := kfind_tK x S
    simp only [tK] at ih
    simp only [tK, List.map_cons, kfind, List.findIdx?_cons, hk, ih]
theorem tK_fits (S : List ByteArray) : (tK S).all (KS.fits (.one .str)) = true := by
  simp only [tK, List.all_map, List.all_eq_true]
  intro p _; rfl
section
variable {ty : TyT} {s : St} {t kt et : TypeId} {ti te tk : TyI} {o : Nat} {S : List ByteArray}
theorem look_set (h : ty t = some ti) (hk : ti.kind = .map kt et) (h1 : ty et = some te) (h2 : ty kt = some tk) (h3 : tk.ks = some (.one .str)) (h4 : te.kind = .bool) (h5 : te.zero = [.bool false]) (ho : s.σ.objs[o]? = some (.map (tK S) (tV S))) (x : ByteArray) :
    lookAV ty s t (.map o) (.pv (.str x)) false = some (.pv (.bool (memB S x))) := by
  have hko : keyOk ty kt (.str x) (tK S) = true := by
    simp only [keyOk, h2, h3, tK_fits, Bool.and_true]; rfl
  simp only [lookAV, h, hk, h1, mapOf, ho, toPV, atomToPV, Option.map_some, PV.nrm, hko, kfind_tK]
  unfold memB
  cases hj : S.findIdx? fun y => decide (x = y) with
  | none =>
    have : (S.any fun y => decide (x = y)) = false := by
      rw [List.findIdx?_eq_none_iff] at hj
      rw [List.any_eq_false]
      intro p hp; simp [hj p hp]
    simp only [this]
    simp [okAV, zeroAV, h4, h5, TyK.agg]
  | some j =>
    rw [List.findIdx?_eq_some_iff_getElem] at hj
    obtain ⟨h6, h7, _⟩ := hj
    have : (S.any fun y => decide (x = y)) = true := List.any_eq_true.2 ⟨_, List.getElem_mem h6, h7⟩
    simp only [this]
    simp [okAV, tV, h6]
theorem kput_set (x : ByteArray) : kput (.str x) (.bool true) (tK S) (tV S) = (tK (addS S x), tV (addS S x)) := by
  unfold kput
  rw [kfind_tK]
  cases hj : S.findIdx? fun y => decide (x = y) with
  | none =>
    have : memB S x = false := by
      rw [List.findIdx?_eq_none_iff] at hj
      unfold memB
      rw [List.any_eq_false]
      intro p hp; simp [hj p hp]
    unfold addS
    rw [this]
    simp [tK, tV]
  | some j =>
    rw [List.findIdx?_eq_some_iff_getElem] at hj
    obtain ⟨h6, h7, _⟩ := hj
    have : memB S x = true := List.any_eq_true.2 ⟨_, List.getElem_mem h6, h7⟩
    unfold addS
    rw [this]
    simp only [if_true]
    congr 1
    apply List.ext_getElem?
    intro i
    rw [List.getElem?_set]
    unfold tV
    split
    · subst_vars
      split
      · rename_i hlt; simp at hlt; simp [hlt]
      · rename_i hlt; rw [List.getElem?_eq_none (by simpa using hlt)]
    · rfl
theorem put_set (h : ty t = some ti) (hk : ti.kind = .map kt et) (h2 : ty kt = some tk) (h3 : tk.ks = some (.one .str)) (ho : s.σ.objs[o]? = some (.map (tK S) (tV S))) (x : ByteArray) :
    putAV ty s t (.map o) (.pv (.str x)) (.pv (.bool true)) = some (setS s.σ o (addS S x)) := by
  have hko : keyOk ty kt (.str x) (tK S) = true := by
    simp only [keyOk, h2, h3, tK_fits, Bool.and_true]; rfl
  simp only [putAV, h, hk, ho, toPV, atomToPV, Option.map_some, PV.nrm, hko, kput_set]
  rfl
end
section
variable {σ : Store} {o : Nat} {S R : List ByteArray}
theorem setS_self (h : σ.objs[o]? = some (.map (tK S) (tV S))) : setS σ o S = σ := by
  unfold setS
  have : σ.objs.set o (.map (tK S) (tV S)) = σ.objs := by
    apply List.ext_getElem?
    intro i
    rw [List.getElem?_set]
    split
    · subst_vars
      split
      · exact h.symm
      · rename_i hlt; rw [List.getElem?_eq_none (by simpa using hlt)]
    · rfl
  rw [this]
theorem setS_get (h : o < σ.objs.length) : (setS σ o S).objs[o]? = some (.map (tK S) (tV S)) := by simp [setS, h]
theorem setS_set : setS (setS σ o S) o R = setS σ o R := by simp [setS]
theorem setS_gl : (setS σ o S).gl = σ.gl := rfl
theorem setS_no : (setS σ o S).objs.length = σ.objs.length := by simp [setS]
theorem setS_nt : (setS σ o S).toks.length = σ.toks.length := rfl
theorem setS_cut : (setS σ o S).cut σ.objs.length σ.toks.length = setS σ o S := by simp [setS, Store.cut, List.take_of_length_le]
theorem setS_mem {ob : AObj} {no nt nl : Nat} (h : ob ∈ (setS σ o S).objs) : ob ∈ σ.objs ∨ ob.clo no nt nl = true := by
  rcases List.mem_or_eq_of_mem_set h with h | h
  · exact .inl h
  · subst h; exact .inr rfl
end
theorem memB_add {S : List ByteArray} {x y : ByteArray} : memB (addS S x) y = (memB S y || decide (y = x)) := by
  unfold addS
  split
  · rename_i h
    by_cases e : y = x
    · subst e; simp [h]
    · simp [e]
  · simp [memB, List.any_append]
theorem memB_fold {L : List ByteArray} : ∀ {S : List ByteArray} {y : ByteArray}, memB (L.foldl addS S) y = (memB S y || memB L y) := by
  induction L with
  | nil => intro S y; simp [memB]
  | cons x L ih =>
    intro S y
    rw [List.foldl_cons, ih, memB_add]
    simp only [memB, List.any_cons, Bool.or_assoc]
/-- What has been noted when k of the terms in a term have been gone through. -/
def ownN (d : D) : List ByteArray := if (d.kind == 3 && !decide (d.head.text = sQuote)) = true then nmsD d else []
def mkK (d : D) (S : List ByteArray) (k : Nat) : List ByteArray := (((inner d).take k).flatMap mbnd).foldl addS ((ownN d).foldl addS S)
theorem mkK_zero {d : D} {S : List ByteArray} : mkK d S 0 = (ownN d).foldl addS S := by simp [mkK]
theorem mkK_next {d x : D} {S : List ByteArray} {k : Nat} (h : (inner d)[k]? = some x) : mkK d S (k + 1) = (mbnd x).foldl addS (mkK d S k) := by
  unfold mkK; rw [take_next h]; simp
theorem mkK_all {d : D} {S : List ByteArray} : mkK d S (inner d).length = (mbnd d).foldl addS S := by
  unfold mkK
  rw [List.take_length, mbnd_eq d, List.foldl_append]; rfl

theorem NoneLast.zero {l : List ByteArray} {s : ByteArray} : NoneLast l s 0 := fun j h => by omega
theorem NoneLast.succ {l : List ByteArray} {s y : ByteArray} {k : Nat} (h : NoneLast l s k) (hy : l[l.length - 1 - k]? = some y) (hne : decide (y = s) = false) : NoneLast l s (k + 1) := by
  intro j hj
  by_cases e : j = k
  · subst e; rw [hy]; simpa using hne
  · exact h j (by omega)
theorem acalls_gen {P : Program} {f : FuncId} {args : List AV} {σ : Store} {R : AV → Store → Prop} (h : ∀ τ, τ = σ → ACalls P f args τ R) : ACalls P f args σ R := h σ rfl
theorem newN_get {d : D} {n k : Nat} (h : k < shN d.head.text) : (newN d n)[k]? = some (namedB ((n + k : Nat) : Int)) := by
  unfold newN
  rw [List.getElem?_map, List.getElem?_range h]; rfl
theorem envP_next {env L : List ByteArray} {k : Nat} {x : ByteArray} (h : L[k]? = some x) : envP (env ++ L.take (k + 1)) = envP (env ++ L.take k) ++ [(x, namedB ((env.length + k : Nat) : Int))] := by
  have hl : (L.take k).length = k := by rw [List.length_take]; have := (List.getElem?_eq_some_iff.1 h).1; omega
  rw [take_next h, ← List.append_assoc, envP_snoc]
  simp [hl]

@[go_sem] theorem modify_app3 {l : List Tok} {t u v : Tok} {f : Tok → Tok} : (l ++ [t, u, v]).modify (l.length + 2) f = l ++ [t, u, f v] := by
  induction l with
  | nil => rfl
  | cons a l ih => simp [ih]
@[go_sem] theorem modify_app20 {l : List Tok} {t u : Tok} {f : Tok → Tok} : (l ++ [t, u]).modify l.length f = l ++ [f t, u] := by
  induction l with
  | nil => rfl
  | cons a l ih => simp [ih]
@[go_sem] theorem take_app3 {α : Type} {l : List α} {a b c : α} : (l ++ [a, b, c]).take (l.length + 3) = l ++ [a, b, c] := List.take_of_length_le (by simp)
theorem mem_app2 {l : List AObj} {a b ob : AObj} {no nt nl : Nat} (ha : a.clo no nt nl = true) (hb : b.clo no nt nl = true) (h : ob ∈ l ++ [a, b]) : ob ∈ l ∨ ob.clo no nt nl = true := by
  rcases List.mem_append.1 h with h | h
  · exact .inl h
  · simp only [List.mem_cons, List.not_mem_nil, or_false] at h
    rcases h with rfl | rfl
    · exact .inr ha
    · exact .inr hb
theorem take_set_le {α : Type} {l : List α} {n i : Nat} {x : α} (h : n ≤ i) : (l.set i x).take n = l.take n := by
  apply List.ext_getElem?
  intro j
  rw [List.getElem?_take, List.getElem?_take]
  split
  · rw [List.getElem?_set, if_neg (by omega)]
  · rfl
theorem set_self {l : List AObj} {o : Nat} {x : AObj} (h : l[o]? = some x) : l.set o x = l := by
  apply List.ext_getElem?
  intro i
  rw [List.getElem?_set]
  split
  · subst_vars
    split
    · exact h.symm
    · rename_i hlt; rw [List.getElem?_eq_none (by simpa using hlt)]
  · rfl

theorem get_app4 {α : Type} {l : List α} {a b c d : α} : (l ++ [a, b, c, d])[l.length + 3]? = some d := by
  rw [List.getElem?_append_right (by omega), Nat.add_sub_cancel_left]; rfl

theorem set_ne {l : List AObj} {i j : Nat} {x : AObj} (h : i ≠ j) : (l.set i x)[j]? = l[j]? := by rw [List.getElem?_set, if_neg h]
theorem set_at {l : List AObj} {i : Nat} {x : AObj} : (l.set i x)[i]? = l[i]?.map fun _ => x := by
  rw [List.getElem?_set, if_pos rfl]
  split
  · rename_i h; rw [List.getElem?_eq_getElem h]; rfl
  · rename_i h; rw [List.getElem?_eq_none (by omega)]; rfl

theorem mem_app1 {l : List AObj} {a ob : AObj} {no nt nl : Nat} (ha : a.clo no nt nl = true) (h : ob ∈ l ++ [a]) : ob ∈ l ∨ ob.clo no nt nl = true := by
  rcases List.mem_append.1 h with h | h
  · exact .inl h
  · simp only [List.mem_singleton] at h
    subst h; exact .inr ha
end Go.Aw

/- Terms of layer 25 (six): plain terms, erasing, lifting. No program is named. -/
namespace Go.Aw
open Go
theorem setS_new {σ : Store} {ob : AObj} {S : List ByteArray} : setS { σ with objs := σ.objs ++ [ob] } σ.objs.length S = { σ with objs := σ.objs ++ [.map (tK S) (tV S)] } := by simp [setS]
theorem isSym_size {lt : Int → Bool} {s : ByteArray} (h : isSym lt s = true) : s.size ≤ 40 := by
  unfold isSym at h
  simp only [Bool.and_eq_true, Bool.not_eq_true', Bool.or_eq_false_iff, decide_eq_false_iff_not] at h
  omega
theorem sizes_syms : ∀ l : List ByteArray, D.sizes (l.map dsym) = l.length
  | [] => rfl
  | x :: l => by simp [D.sizes, sizes_syms l, dsym, D.size]; omega
theorem size_list (l : List D) : (dlist l).size = 1 + D.sizes l := by simp [dlist, D.size]
theorem sizes_len {l : List D} {n : Nat} (h : ∀ x, x ∈ l → n ≤ x.size) : n * l.length ≤ D.sizes l := by
  induction l with
  | nil => simp
  | cons x l ih =>
    have h1 := h x (by simp)
    have h2 := ih fun y hy => h y (by simp [hy])
    simp only [D.sizes, List.length_cons, Nat.mul_add, Nat.mul_one]; omega
theorem sizes_split (d : D) (hk : d.kind = 3) (hq : d.head.text ≠ sQuote) (hg : GoodM d) : d.size = 1 + d.head.size + D.sizes ((d.kids.drop 1).take (shN d.head.text)) + D.sizes (inner d) ∧ ((d.kids.drop 1).take (shN d.head.text)).length = shN d.head.text := by
  obtain ⟨x0, r, hks⟩ := kids_cons (hg.ne hk)
  have hn := hg.nms hk hq
  unfold nmsD at hn
  rw [List.length_map] at hn
  refine ⟨?_, hn⟩
  have hi : inner d = (d.kids.drop 1).drop (shN d.head.text) := by rw [inner_eq, if_neg (by rw [hk]; decide), if_neg (by simpa using hq), List.drop_drop]
  have h1 : D.sizes (d.kids.drop 1) = D.sizes ((d.kids.drop 1).take (shN d.head.text)) + D.sizes (inner d) := by rw [hi, ← sizes_append, List.take_append_drop]
  rw [D.size_kids, head_cons hks]
  rw [hks] at h1 ⊢
  simp only [List.drop_succ_cons, List.drop_zero] at h1 ⊢
  rw [head_cons hks] at h1
  simp only [D.sizes]
  omega
theorem mren_size {d : D} : GoodM d → ∀ env, (mren d env).size ≤ d.size := by
  induction d using D.ind with
  | _ k n t l ih =>
    generalize hd : D.mk k n t l = d at *
    have hl : d.kids = l := by rw [← hd]; rfl
    subst hl
    clear hd
    intro hg env
    rw [mren_eq]
    split
    · split
      · have := D.size_pos d; simp [dsym, D.size, D.sizes]; omega
      · exact Nat.le_refl _
    · split
      · exact Nat.le_refl _
      · split
        · exact Nat.le_refl _
        · rename_i h2 h3 hq
          have hq' : d.head.text ≠ sQuote := by simpa using hq
          have hk : d.kind = 3 := by simpa using h3
          obtain ⟨e1, e2⟩ := sizes_split d hk hq' hg
          have h1 := sizes_len (l := (d.kids.drop 1).take (shN d.head.text)) (n := 1) fun x _ => D.size_pos x
          have h4 : ∀ (m : List D) (i : Nat), (∀ x, x ∈ m → x ∈ inner d) → D.sizes ((m.zipIdx i).map fun p => mren p.1 (env ++ bnd d p.2)) ≤ D.sizes m := by
            intro m
            induction m with
            | nil => intro i _; simp [D.sizes]
            | cons x m ih2 =>
              intro i hm
              have hx := hm x (by simp)
              have a1 := ih x (inner_mem hx) (hg.part hx) (env ++ bnd d i)
              have a2 := ih2 (i + 1) fun y hy => hm y (by simp [hy])
              simp only [List.zipIdx_cons, List.map_cons, D.sizes]; omega
          have h5 := h4 (inner d) 0 fun _ h => h
          rw [size_list]
          have h6 : D.sizes (mapI (fun i x => mren x (env ++ bnd d i)) (inner d)) ≤ D.sizes (inner d) := h5
          rw [sizes_append]
          simp only [D.sizes, sizes_syms, newN_len]
          omega
theorem mfree_mem {d : D} : ∀ (l out : List ByteArray) (x : ByteArray), x ∈ mfree d l out → x ∈ out ∨ ∃ y, y ∈ mall d ∧ y.kind = 2 ∧ y.text = x := by
  induction d using D.ind with
  | _ k n t kids ih =>
    generalize hd : D.mk k n t kids = d at *
    have hl : d.kids = kids := by rw [← hd]; rfl
    subst hl
    clear hd
    intro l out x hx
    rw [mfree_eq] at hx
    split at hx
    · rename_i hc
      simp only [Bool.and_eq_true, beq_iff_eq] at hc
      rcases List.mem_append.1 hx with h | h
      · exact .inl h
      · simp only [List.mem_singleton] at h
        exact .inr ⟨d, by rw [mall_eq]; simp, hc.1.1, h.symm⟩
    · have key : ∀ (r : List D) (i : Nat) (out : List ByteArray), (∀ y, y ∈ r → y ∈ inner d) → x ∈ foldI (fun i y out => mfree y (l ++ bnd d i) out) i r out → x ∈ out ∨ ∃ y, y ∈ mall d ∧ y.kind = 2 ∧ y.text = x := by
        intro r
        induction r with
        | nil => intro i out _ h; exact .inl h
        | cons y r ih2 =>
          intro i out hr h
          rcases ih2 (i + 1) _ (fun z hz => hr z (by simp [hz])) h with h | h
          · have hy := hr y (by simp)
            rcases ih y (inner_mem hy) _ _ x h with h | ⟨z, h1, h2⟩
            · exact .inl h
            · exact .inr ⟨z, by rw [mall_eq]; exact List.mem_cons_of_mem _ (List.mem_flatMap.2 ⟨y, hy, h1⟩), h2⟩
          · exact .inr h
      exact key _ _ _ (fun _ h => h) hx
theorem free_short {d : D} (hg : GoodM d) {x : ByteArray} (h : x ∈ mfree d [] []) : x.size ≤ 40 := by
  rcases mfree_mem [] [] x h with h | ⟨y, h1, h2, rfl⟩
  · simp at h
  · have := (formed_sym (mall_good hg y h1).formed h2).2.2
    exact isSym_size this

/-! ### Plain -/
def mused (d : D) : List ByteArray := (mbnd (mren d [])).foldl addS []
def mclash (d : D) : Bool := (mfree d [] []).any fun x => pname x && memB (mused d) x
def mplain (d : D) : D × Int := if (mcheck d != 0) = true then (dnone, mcheck d) else if mclash d = true then (dnone, 6) else if (dcheck (mren d []) != 0) = true then (dnone, 3) else (mren d [], 0)
def msame (a b : D) : Bool × Int := if (mcheck a != 0) = true then (false, mcheck a) else if (mcheck b != 0) = true then (false, mcheck b) else
  if ((mplain a).2 != 0) = true then (false, (mplain a).2) else ((mplain b).2 == 0 && deq (mplain a).1 (mplain b).1, (mplain b).2)
theorem mplain_size {d : D} (hd : d.size ≤ 1000000000) : (mplain d).1.size ≤ 1000000000 := by
  unfold mplain
  split
  · simp [dnone, D.size, D.sizes]
  · split
    · simp [dnone, D.size, D.sizes]
    · split
      · simp [dnone, D.size, D.sizes]
      · rename_i h _ _
        exact Nat.le_trans (mren_size (mcheck_good (by simpa using h)) []) hd
/-! ### Erase, Lifted -/
def liftF (d : D) : D := if ((d.kind == 1 || isW d sQuote) || isW d sFn) = true then dlist [dsym sLift, d] else d
def mlifted (d : D) : D × Int := if (mcheck d != 0) = true then (dnone, mcheck d) else if (!mone d) = true then (dnone, 13) else if (dcheck (mmap liftF d) != 0) = true then (dnone, 3) else (mmap liftF d, 0)
theorem mmap_size {f : D → D} {c : Nat} (hf : ∀ x, okF x → (f x).size ≤ x.size + c) {d : D} : GoodM d → (mmap f d).size + c ≤ (1 + c) * d.size + c := by
  induction d using D.ind with
  | _ k n t l ih =>
    generalize hd : D.mk k n t l = d at *
    have hl : d.kids = l := by rw [← hd]; rfl
    subst hl
    clear hd
    intro hg
    have hp := D.size_pos d
    have hleaf : (f d).size ≤ (1 + c) * d.size := by
      have h1 := hf d hg.okF
      have h2 : c ≤ c * d.size := Nat.le_mul_of_pos_right c hp
      rw [Nat.add_mul, Nat.one_mul]; omega
    rw [mmap_eq]
    split
    · omega
    · split
      · omega
      · rename_i h3 hq
        have hq' : d.head.text ≠ sQuote := by simpa using hq
        have hk : d.kind = 3 := by simpa using h3
        obtain ⟨e1, e2⟩ := sizes_split d hk hq' hg
        have h1 := sizes_len (l := (d.kids.drop 1).take (shN d.head.text)) (n := 1) fun x _ => D.size_pos x
        have h4 : ∀ (m : List D), (∀ x, x ∈ m → x ∈ inner d) → D.sizes (m.map (mmap f)) ≤ (1 + c) * D.sizes m := by
          intro m
          induction m with
          | nil => intro _; simp [D.sizes]
          | cons x m ih2 =>
            intro hm
            have hx := hm x (by simp)
            have a1 := ih x (inner_mem hx) (hg.part hx)
            have a2 := ih2 fun y hy => hm y (by simp [hy])
            simp only [List.map_cons, D.sizes, Nat.mul_add]; omega
        have h5 := h4 (inner d) fun _ h => h
        have h6 := hf _ (hg.okF_made hk hq' (ns := nmsD d) (l := (inner d).map (mmap f)) (hg.nms hk hq') (by simp))
        rw [size_list] at h6
        have h7 : D.sizes (d.head :: (nmsD d).map dsym ++ (inner d).map (mmap f)) = d.head.size + shN d.head.text + D.sizes ((inner d).map (mmap f)) := by
          rw [sizes_append]; simp only [D.sizes, sizes_syms, hg.nms hk hq']
        rw [h7] at h6
        have h8 : (1 + c) * d.size = (1 + c) * (1 + d.head.size + D.sizes ((d.kids.drop 1).take (shN d.head.text))) + (1 + c) * D.sizes (inner d) := by rw [← Nat.mul_add, ← e1]
        have h9 : (1 + c) * (1 + d.head.size + D.sizes ((d.kids.drop 1).take (shN d.head.text))) = (1 + d.head.size + D.sizes ((d.kids.drop 1).take (shN d.head.text))) + c * (1 + d.head.size + D.sizes ((d.kids.drop 1).take (shN d.head.text))) := by rw [Nat.add_mul, Nat.one_mul]
        have h10 : c ≤ c * (1 + d.head.size + D.sizes ((d.kids.drop 1).take (shN d.head.text))) := Nat.le_mul_of_pos_right c (by omega)
        omega

theorem mlifted_size {d : D} (hg : GoodM d) : (mmap liftF d).size ≤ 3 * d.size := by
  have h := mmap_size (f := liftF) (c := 2) (fun x hx => by
    unfold liftF
    split
    · simp [dlist, dsym, D.size, D.sizes]; omega
    · omega) hg
  omega
end Go.Aw

/- Runs that are told whole: an evaluation of a function at given values, and that the machine's call gives what it gives. No program is named. -/
namespace Go.Aw
open Go
structure Cfg where
  P : Program
  ty : TyT
  sh : FuncId → List Tmp
  dm : FuncId → Nat → Nat × List Nat × Bool
  ca : FuncId → Bool
  orc : FuncId → List AV → Option AV

inductive Gate where
  | on | off | bad

def gateOf (ops : Array Oper) (o : Oper) (T : List (Nat × AV)) : Gate :=
  match o.guard with
  | none => .on
  | some _ => match guardTmp ops o with
    | some (d, want) => match Aw.get T d with
      | .pv (.bool b) => match b, want with
        | true, true => .on
        | false, false => .on
        | _, _ => .off
      | .tuple [] => .off
      | _ => .bad
    | none => .bad

def callOf (s : St) (o : Oper) : Option (FuncId × List AV) :=
  match o.op with
  | .call c => match c.callee with
    | .value fo => match ev s fo with
      | .func (.func f) caps => some (f, c.args.toList.map (ev s) ++ caps)
      | _ => none
    | _ => none
  | _ => none

def lower1 (x : AV) : AV := match toPV x with
  | some p => .pv p
  | none => x
def lowerT : AV → AV
  | .tuple xs => .tuple (xs.map lower1)
  | x => lower1 x
def cloT (no nt : Nat) : AV → Bool
  | .tuple xs => AV.clos no nt 0 xs
  | x => x.clo no nt 0

/-- What is left of a call's store. -/
def finR (σ : Store) (r : AV) (σ' : Store) : AV × Store :=
  match cloT σ.objs.length σ.toks.length (lowerT r) && (σ'.objs.take σ.objs.length).all (AObj.clo σ.objs.length σ.toks.length 0) with
  | true => (lowerT r, { σ'.cut σ.objs.length σ.toks.length with gl := σ.gl })
  | false => (r, { σ' with gl := σ.gl })

def isFin : Exit → Bool
  | .normal => true
  | .ret => true
  | _ => false

mutual
def evF (C : Cfg) : Nat → FuncId → List AV → Store → Option (AV × Store)
  | 0, _, _, _ => none
  | n + 1, f, args, σ => match C.orc f args with
    | some r => some (r, σ)
    | none => match C.P.funcs[f]? with
      | some fn => match fn.body with
        | some c => match decide (args.length ≤ fn.ntmps) with
          | true => match evC C n f fn.ntmps c ⟨argT 0 args, [], σ⟩ with
            | some (e, s) => match isFin e with
              | true => match resAV C.ty s fn.results.toList with
                | some l => match AV.noLs l with
                  | true => some (finR σ (oneOf l) s.σ)
                  | false => none
                | none => none
              | false => none
            | none => none
          | false => none
        | none => none
      | none => none
def evC (C : Cfg) : Nat → FuncId → Nat → Code → St → Option (Exit × St)
  | 0, _, _, _, _ => none
  | n + 1, f, N, c, s => match c with
    | .skip => some (.normal, s)
    | .ret => some (.ret, s)
    | .exit id => some (.exit id, s)
    | .seq x y => match evC C n f N x s with
      | some (.normal, s') => evC C n f N y s'
      | r => r
    | .block id c => match evC C n f N c s with
      | some (.exit id', s') => match Nat.beq id' id with
        | true => some (.normal, s')
        | false => some (.exit id', s')
      | r => r
    | .loop c => match evC C n f N c s with
      | some (.normal, s') => evC C n f N (.loop c) s'
      | r => r
    | .cond c x y => match ev s c with
      | .pv (.bool true) => evC C n f N x s
      | .pv (.bool false) => evC C n f N y s
      | _ => none
    | .region _ ops false => match evO C n f N ops ops.toList s with
      | some s' => some (.normal, s')
      | none => none
    | .region id ops true => match drawOk ops (C.dm f id).1 && decide ((C.dm f id).1 < ops.size) with
      | true => match evU C n f N (viewX (C.dm f id).2.1 (C.dm f id).2.2 s) ops (ops.toList.take (C.dm f id).1) s with
        | some s' => match evO C n f N ops (ops.toList.drop (C.dm f id).1) s' with
          | some s' => some (.normal, s')
          | none => none
        | none => none
      | false => none
    | _ => none
def evO (C : Cfg) : Nat → FuncId → Nat → Array Oper → List Oper → St → Option St
  | 0, _, _, _, _, _ => none
  | _ + 1, _, _, _, [], s => some s
  | n + 1, f, N, ops, o :: os, s => match dstOk N o.dst with
    | true => match gateOf ops o s.T with
      | .bad => none
      | .off => evO C n f N ops os (s.put o.dst (.tuple []))
      | .on => match callOf s o with
        | some (g, args) => match C.ca g && AV.noLs args with
          | true => match evF C n g args s.σ with
            | some (r, σ') => evO C n f N ops os (({ s with σ := σ' } : St).put o.dst r)
            | none => none
          | false => none
        | none => match stepOp C.ty (C.sh f) s o with
          | some s' => evO C n f N ops os s'
          | none => none
    | false => none
def evU (C : Cfg) : Nat → FuncId → Nat → View → Array Oper → List Oper → St → Option St
  | 0, _, _, _, _, _, _ => none
  | _ + 1, _, _, _, _, [], s => some s
  | n + 1, f, N, V, ops, o :: os, s => match dstOk N o.dst with
    | true => match gateOf ops o s.T with
      | .bad => none
      | .off => evU C n f N V ops os ⟨putT s.T o.dst (.tuple []), s.L, s.σ⟩
      | .on => match effOf C.ty (V.st s.T) o with
        | some (.call g args) => match C.ca g && AV.noLs args && V.objs.isEmpty with
          | true => match evF C n g args s.σ with
            | some (r, σ') => evU C n f N V ops os ⟨putT s.T o.dst r, s.L, σ'⟩
            | none => none
          | false => none
        | some e => match viewOk V e with
          | true => match effStep s o.dst e with
            | some s' => evU C n f N V ops os s'
            | none => none
          | false => none
        | none => none
    | false => none
end
section
variable {P : Program} {ty : TyT} {σ0 : Store} {N : Nat} {s s' : St} {o : Oper} {ops : Array Oper} {os : List Oper} {K : St → Prop} {V : View} {Q : Exit → St → Prop} {c : Code}
theorem awp_gl (h : s.σ.gl = σ0.gl → AWp P σ0 N c Q s) : AWp P σ0 N c Q s := by
  rintro g0 w0 a w ⟨g, r⟩
  exact h r.1.gl g0 w0 a w ⟨g, r⟩

theorem al_gl (h : s.σ.gl = σ0.gl → AOpsL P σ0 N ops os K s) : AOpsL P σ0 N ops os K s := by
  rintro l hl g0 w0 a w nx ⟨g, r⟩ hn
  exact h r.1.gl l hl g0 w0 a w nx ⟨g, r⟩ hn

theorem gate_on (h : gateOf ops o s.T = .on) : o.guard = none ∨ ∃ d b, guardTmp ops o = some (d, b) ∧ get s.T d = .pv (.bool b) := by
  unfold gateOf at h
  split at h
  · exact .inl ‹_›
  · split at h
    · rename_i d want hg
      split at h
      · rename_i b hb
        split at h
        · exact .inr ⟨d, true, hg, hb⟩
        · exact .inr ⟨d, false, hg, hb⟩
        · cases h
      · cases h
      · cases h
    · cases h

theorem gate_off {T : List (Nat × AV)} (h : gateOf ops o T = .off) : ∃ d b, guardTmp ops o = some (d, b) ∧ off (get T d) b = true := by
  unfold gateOf at h
  split at h
  · cases h
  · split at h
    · rename_i d want hg
      split at h
      · rename_i b hb
        split at h
        · cases h
        · cases h
        · rename_i h1 h2
          refine ⟨d, want, hg, ?_⟩
          rw [hb]
          cases b <;> cases want <;> simp_all [off]
      · rename_i hb
        exact ⟨d, want, hg, by rw [hb]; rfl⟩
      · cases h
    · cases h

theorem al_on (h : gateOf ops o s.T = .on) (hd : dstOk N o.dst = true) (k : AOp P σ0 N o (AOpsL P σ0 N ops os K) s) : AOpsL P σ0 N ops (o :: os) K s := by
  rcases gate_on h with hg | ⟨d, b, hg, hb⟩
  · exact al_cons hg k
  · exact al_take d b b hb rfl hg hd k

theorem al_off (h : gateOf ops o s.T = .off) (hd : dstOk N o.dst = true) (k : AOpsL P σ0 N ops os K (s.put o.dst (.tuple []))) : AOpsL P σ0 N ops (o :: os) K s := by
  obtain ⟨d, b, hg, hb⟩ := gate_off h
  intro l hl
  cases l with
  | nil => simp at hl
  | cons i l =>
    simp only [List.map_cons, List.cons.injEq] at hl
    exact aops_skip hl.1 hg hb hd (k l hl.2)

theorem gate_eff {e : Eff} (h : gateOf ops o s.T = .on) (he : effOf ty (V.st s.T) o = some e) : GateEff ty V ops s.T o e := by
  rcases gate_on h with hg | ⟨d, b, hg, hb⟩
  · exact .plain hg he
  · exact .yes hg hb he

theorem callOf_eq {g : FuncId} {args : List AV} (h : callOf s o = some (g, args)) : ∃ c fo caps, o.op = .call c ∧ c.callee = .value fo ∧ ev s fo = .func (.func g) caps ∧ args = c.args.toList.map (ev s) ++ caps := by
  unfold callOf at h
  split at h
  · rename_i c hc
    split at h
    · rename_i fo hfo
      split at h
      · rename_i f caps hf
        cases h
        exact ⟨c, fo, caps, hc, hfo, hf, rfl⟩
      · cases h
    · cases h
  · cases h

theorem lower1_wv {no nt : Nat} {x : AV} (h : (lower1 x).clo no nt 0 = true) : WV no nt 0 x (lower1 x) := by
  unfold lower1 at h ⊢
  split
  · exact .pv ‹_›
  · rename_i hx
    rw [hx] at h
    exact .same h

theorem lowerT_wvt {no nt : Nat} {r : AV} (h : cloT no nt (lowerT r) = true) : WVt no nt 0 r (lowerT r) := by
  cases r with
  | tuple xs =>
    simp only [lowerT, cloT, WVt] at h ⊢
    induction xs with
    | nil => trivial
    | cons x xs ih =>
      simp only [List.map_cons, AV.clos, Bool.and_eq_true] at h
      exact ⟨lower1_wv h.1, ih h.2⟩
  | _ =>
    simp only [lowerT] at h ⊢
    have h2 : ∀ (y : AV), (∀ xs, y ≠ .tuple xs) → cloT no nt y = true → y.clo no nt 0 = true := by
      intro y hy hc
      unfold cloT at hc
      split at hc
      · exact (hy _ rfl).elim
      · exact hc
    have h3 : ∀ (x : AV), (∀ xs, x ≠ .tuple xs) → ∀ xs, lower1 x ≠ .tuple xs := by
      intro x hx xs
      unfold lower1
      split
      · simp
      · exact hx xs
    have := lower1_wv (h2 _ (h3 _ (by simp)) h)
    unfold WVt
    split
    · rename_i e1 e2; cases e1
    · exact this
end
theorem ACalls.gl {P : Program} {f : FuncId} {args : List AV} {σ : Store} {R : AV → Store → Prop} (h : ACalls P f args σ R) : ACalls P f args σ fun r' s' => R r' s' ∧ s'.gl = σ.gl := by
  intro g' w cargs h1 h2 h3
  refine (h g' w cargs h1 h2 h3).mono ?_
  rintro e w' ⟨v, r1, σ1, g1, e1, e2, e3, e4, e5⟩
  exact ⟨v, r1, σ1, g1, e1, ⟨e2, e4.gl⟩, e3, e4, e5⟩

theorem appendStep_gl {s s' : St} {d : Option Tmp} {e : TypeId} {te : TyI} {x : AV} {ys : List PV} (h : appendStep s d e te x ys = some s') : s'.σ.gl = s.σ.gl := by
  unfold appendStep at h
  split at h
  · split at h
    · split at h
      · split at h
        · cases h; cases d <;> rfl
        · cases h
      · cases h
    · split at h
      · split at h
        · cases h; cases d <;> rfl
        · cases h
      · cases h
  · cases h

theorem effStep_gl {s s' : St} {d : Option Tmp} {e : Eff} (h : effStep s d e = some s') : s'.σ.gl = s.σ.gl := by
  cases e with
  | pure x => simp only [effStep, Option.some.injEq] at h; subst h; rfl
  | box cs => simp only [effStep, Option.some.injEq] at h; subst h; rfl
  | append e te x ys =>
    simp only [effStep] at h
    split at h
    · rename_i s1 h1
      have := appendStep_gl h1
      cases h; exact this
    · cases h
  | call => simp [effStep] at h
  | path => simp [effStep] at h
  | storeL i off ti ds =>
    simp only [effStep] at h
    split at h
    · split at h
      · cases h; rfl
      · cases h
    · cases h

theorem evF_gl {C : Cfg} {n : Nat} {f : FuncId} {args : List AV} {σ σ' : Store} {r : AV} (h : evF C n f args σ = some (r, σ')) : σ'.gl = σ.gl := by
  cases n with
  | zero => simp [evF] at h
  | succ n =>
    simp only [evF] at h
    split at h
    · cases h; rfl
    · split at h
      · split at h
        · split at h
          · split at h
            · split at h
              · split at h
                · split at h
                  · simp only [finR] at h
                    split at h <;> cases h <;> rfl
                  · cases h
                · cases h
              · cases h
            · cases h
          · cases h
        · cases h
      · cases h

/-- From the head of a loop on. -/
def AWpL (P : Program) (σ0 : Store) (N : Nat) (c : Code) (Q : Exit → St → Prop) (s : St) : Prop :=
  ∀ g0 w0 a w, Rel g0 σ0 w0 N s a w → ∀ (b : Frame) (k : List Item) (cs : List Frame), b.roundOf = (wF none).round → (wF none).fn b.fn → (wF none).room (cs.length + 1 + 0) → ∃ e a' w', lift g0 σ0 w0 N Q e a' w' ∧ ArrivesIn (Machine.fenced P (wF none)) P (lone (b.atR a (.code c :: .inLoop c :: k)) cs w) b k cs e a' w'

theorem awp_loopL {P : Program} {σ0 : Store} {N : Nat} {c : Code} {Q : Exit → St → Prop} {s : St} (h : AWpL P σ0 N c Q s) : AWp P σ0 N (.loop c) Q s := by
  intro g0 w0 a w r b k cs hro hb hr
  obtain ⟨e₂, a₂, w₂, hq₂, harr₂⟩ := h g0 w0 a w r b k cs hro hb hr
  exact ⟨e₂, a₂, w₂, hq₂, .of_steps (.one (fenced_calm hb hr rfl) stepR_loop) harr₂⟩

theorem awpL_round {P : Program} {σ0 : Store} {N : Nat} {c : Code} {Q : Exit → St → Prop} {s : St} (hw : AWp P σ0 N c (Then (AWpL P σ0 N c Q) Q) s) : AWpL P σ0 N c Q s := by
  intro g0 w0 a w r b k cs hro hb hr
  obtain ⟨e₁, a₁, w₁, ⟨s₁, hq, r₁⟩, harr⟩ := hw g0 w0 a w r b (.inLoop c :: k) cs hro hb hr
  cases e₁ with
  | normal =>
    obtain ⟨e₂, a₂, w₂, hq₂, harr₂⟩ := hq g0 w0 a₁ w₁ r₁ b k cs hro hb hr
    exact ⟨e₂, a₂, w₂, hq₂, .of_steps (StepsIn.trans harr (.one (fenced_calm hb hr rfl) stepR_inLoop)) harr₂⟩
  | exit id => exact ⟨_, a₁, w₁, ⟨s₁, hq, r₁⟩, .pass (x := .inLoop c) rfl (fun _ _ => .inl (by simp)) harr⟩
  | goto l => exact ⟨_, a₁, w₁, ⟨s₁, hq, r₁⟩, .pass (x := .inLoop c) rfl (fun _ _ => .inl (by simp)) harr⟩
  | ret => exact ⟨_, a₁, w₁, ⟨s₁, hq, r₁⟩, .pass (x := .inLoop c) rfl (fun _ _ => .inl (by simp)) harr⟩
  | panic ch => exact ⟨_, a₁, w₁, ⟨s₁, hq, r₁⟩, .pass (x := .inLoop c) rfl (fun _ _ => .inl (by simp)) harr⟩
  | outgrown => exact ⟨_, a₁, w₁, ⟨s₁, hq, r₁⟩, .pass (x := .inLoop c) rfl (fun _ _ => .inl (by simp)) harr⟩

structure CfgOk (C : Cfg) (G : List (Nat × PV)) : Prop where
  hty : TyOk C.P C.ty
  hsz : ∀ t ti, C.ty t = some ti → ti.size ≠ 0
  hca : ∀ f, C.ca f = true → Callable C.P f
  horc : ∀ f args r, C.orc f args = some r → Pur C.P G f args r

theorem ev_sound {C : Cfg} {G : List (Nat × PV)} (H : CfgOk C G) : ∀ n : Nat,
    (∀ f args σ r σ', σ.gl = G → evF C n f args σ = some (r, σ') → ACalls C.P f args σ fun r' s' => r' = r ∧ s' = σ') ∧
    (∀ f N c s e s' σ0 (Q : Exit → St → Prop), σ0.gl = G → evC C n f N c s = some (e, s') → Q e s' → AWp C.P σ0 N c Q s) ∧
    (∀ f N ops os s s' σ0 (K : St → Prop), σ0.gl = G → evO C n f N ops os s = some s' → K s' → AOpsL C.P σ0 N ops os K s) ∧
    (∀ f N V ops os s s' (K : St → Prop), s.σ.gl = G → evU C n f N V ops os s = some s' → (s'.σ.gl = G → K s') → UL C.P C.ty V N ops os K s) ∧
    (∀ f N c s e s' σ0 (Q : Exit → St → Prop), σ0.gl = G → evC C n f N (.loop c) s = some (e, s') → Q e s' → AWpL C.P σ0 N c Q s)
  | 0 => ⟨fun _ _ _ _ _ _ h => by simp [evF] at h, fun _ _ _ _ _ _ _ _ _ h => by simp [evC] at h, fun _ _ _ _ _ _ _ _ _ h => by simp [evO] at h, fun _ _ _ _ _ _ _ _ _ h => by simp [evU] at h, fun _ _ _ _ _ _ _ _ _ h => by simp [evC] at h⟩
  | n + 1 => by
    obtain ⟨ihF, ihC, ihO, ihU, ihL⟩ := ev_sound H n
    have loop : ∀ f N c s e s' σ0 (Q : Exit → St → Prop), σ0.gl = G → evC C (n + 1) f N (.loop c) s = some (e, s') → Q e s' → AWpL C.P σ0 N c Q s := by
      intro f N c s e s' σ0 Q hgl h hQ
      simp only [evC] at h
      refine awpL_round ?_
      split at h
      · rename_i s1 h1
        exact ihC f N c s .normal s1 σ0 _ hgl h1 (ihL f N c s1 e s' σ0 _ hgl h hQ)
      · rename_i hne
        refine ihC f N c s e s' σ0 _ hgl h ?_
        cases e <;> first | exact hQ | exact (hne _ h).elim
    refine ⟨?_, ?_, ?_, ?_, loop⟩
    · intro f args σ r σ' hgl h
      simp only [evF] at h
      split at h
      · rename_i r1 ho
        cases h
        exact H.horc f args _ ho _ hgl
      · split at h
        · rename_i fn hfn
          split at h
          · rename_i c hc
            split at h
            · rename_i hlen
              split at h
              · rename_i e s hs
                split at h
                · rename_i hfin
                  split at h
                  · rename_i l hl
                    split at h
                    · rename_i hnl
                      have key : ACalls C.P f args σ fun r' s' => r' = oneOf l ∧ s' = s.σ := by
                        refine acalls_of H.hty hfn hc (by simpa using hlen) (ihC f fn.ntmps c _ e s σ _ hgl hs ?_)
                        cases e <;> first | (cases hfin; done) | exact ⟨l, hl, hnl, rfl, rfl⟩
                      have key := key.gl
                      simp only [finR] at h
                      split at h
                      · rename_i hclo
                        cases h
                        simp only [Bool.and_eq_true, List.all_eq_true] at hclo
                        refine key.less ?_
                        rintro _ _ ⟨⟨rfl, rfl⟩, hg2⟩
                        exact ⟨_, _, _, lowerT_wvt hclo.1, Nat.le_refl _, Nat.le_refl _, fun ob hob => .inr (hclo.2 ob hob), rfl, by rw [← hg2]; rfl⟩
                      · cases h
                        refine key.mono ?_
                        rintro _ _ ⟨⟨rfl, rfl⟩, hg2⟩
                        exact ⟨rfl, by rw [← hg2]⟩
                    · cases h
                  · cases h
                · cases h
              · cases h
            · cases h
          · cases h
        · cases h
    · intro f N c s e s' σ0 Q hgl h hQ
      cases c <;> (try simp only [evC] at h) <;> try (cases h; done)
      case skip => cases h; exact awp_skip hQ
      case ret => cases h; exact awp_ret hQ
      case exit => cases h; exact awp_exit hQ
      case seq x y =>
        refine awp_seq ?_
        split at h
        · rename_i s1 h1
          exact ihC f N x s .normal s1 σ0 _ hgl h1 (ihC f N y s1 e s' σ0 _ hgl h hQ)
        · rename_i hne
          refine ihC f N x s e s' σ0 _ hgl h ?_
          cases e <;> first | exact hQ | exact (hne _ h).elim
      case block id c =>
        refine awp_block ?_
        split at h
        · rename_i id' s1 h1
          refine ihC f N c s (.exit id') s1 σ0 _ hgl h1 ?_
          split at h
          · rename_i hb
            have := Nat.eq_of_beq_eq_true hb
            cases h; subst this; exact inBlock_hit hQ
          · rename_i hb
            have : id' ≠ id := fun e => by subst e; simp at hb
            cases h; exact inBlock_miss this hQ
        · rename_i hne
          refine ihC f N c s e s' σ0 _ hgl h ?_
          cases e <;> first | exact hQ | exact (hne _ _ h).elim
      case loop c =>
        exact awp_loopL (loop f N c s e s' σ0 Q hgl (by simp only [evC]; exact h) hQ)
      case cond c x y =>
        split at h
        · rename_i hc
          exact awp_cond hc (fun _ => ihC f N x s e s' σ0 Q hgl h hQ) (fun e => by cases e)
        · rename_i hc
          exact awp_cond hc (fun e => by cases e) (fun _ => ihC f N y s e s' σ0 Q hgl h hQ)
        · cases h
      case region id ops draw =>
        cases draw with
        | false =>
          simp only [evC] at h
          split at h
          · rename_i s1 h1
            cases h
            exact awp_reg (ihO f N ops _ s s' σ0 _ hgl h1 hQ)
          · cases h
        | true =>
          simp only [evC] at h
          split at h
          · rename_i hok
            simp only [Bool.and_eq_true, decide_eq_true_eq] at hok
            split at h
            · rename_i s1 h1
              split at h
              · rename_i s2 h2
                cases h
                refine awp_gl fun hsg => ?_
                refine awp_regDX H.hty H.hsz _ (C.dm f id).2.1 (C.dm f id).2.2 hok.1 hok.2 ?_
                exact ihU f N _ ops _ s s1 _ (hsg.trans hgl) h1 fun _ => ihO f N ops _ s1 s' σ0 _ hgl h2 hQ
              · cases h
            · cases h
          · cases h
    · intro f N ops os s s' σ0 K hgl h hK
      cases os with
      | nil => simp only [evO] at h; cases h; exact al_nil hK
      | cons o os =>
        simp only [evO] at h
        split at h
        · rename_i hd
          split at h
          · cases h
          · rename_i hg
            exact al_off hg hd (ihO f N ops os _ s' σ0 K hgl h hK)
          · rename_i hg
            split at h
            · rename_i g args hcall
              split at h
              · rename_i hca
                simp only [Bool.and_eq_true] at hca
                split at h
                · rename_i r σ' hF
                  obtain ⟨c, fo, caps, k1, k2, k3, rfl⟩ := callOf_eq hcall
                  refine al_gl fun hsg => ?_
                  refine al_on hg hd (aop_call k1 k2 k3 (H.hca g hca.1) hca.2 hd ((ihF g _ s.σ r σ' (hsg.trans hgl) hF).mono ?_))
                  rintro _ _ ⟨rfl, rfl⟩
                  exact ihO f N ops os _ s' σ0 K hgl h hK
                · cases h
              · cases h
            · split at h
              · rename_i s1 h1
                exact al_on hg hd (aop_step H.hty h1 hd (ihO f N ops os _ s' σ0 K hgl h hK))
              · cases h
        · cases h
    · intro f N V ops os s s' K hgl h hK
      cases os with
      | nil => simp only [evU] at h; cases h; exact ul_nil (hK hgl)
      | cons o os =>
        simp only [evU] at h
        split at h
        · rename_i hd
          split at h
          · cases h
          · rename_i hg
            obtain ⟨d, b, hgt, hb⟩ := gate_off hg
            exact ⟨hd, .pure (.tuple []), .no hgt hb, ihU f N V ops os ⟨putT s.T o.dst (.tuple []), s.L, s.σ⟩ s' K hgl h hK⟩
          · rename_i hg
            split at h
            · rename_i g args he
              split at h
              · rename_i hca
                simp only [Bool.and_eq_true, List.isEmpty_iff] at hca
                split at h
                · rename_i r σ' hF
                  have hc := ihF g args s.σ r σ' hgl hF
                  refine ⟨hd, _, gate_eff hg he, H.hca g hca.1.1, hca.1.2, ?_, ?_⟩
                  · refine hc.mono ?_
                    rintro _ _ ⟨rfl, rfl⟩
                    refine ⟨fun o ob ho => by rw [hca.2] at ho; simp at ho, ?_⟩
                    exact ihU f N V ops os ⟨putT s.T o.dst _, s.L, _⟩ s' K ((evF_gl hF).trans hgl) h hK
                  · exact ⟨r, σ', ihU f N V ops os ⟨putT s.T o.dst r, s.L, σ'⟩ s' K ((evF_gl hF).trans hgl) h hK⟩
                · cases h
              · cases h
            · rename_i e hne he
              split at h
              · rename_i hv
                split at h
                · rename_i s1 h1
                  refine ⟨hd, e, gate_eff hg he, effStep_exec (n := fun T L σ => UL C.P C.ty V N ops os K ⟨T, L, σ⟩) hv h1 ?_⟩
                  exact ihU f N V ops os s1 s' K ((effStep_gl h1).trans hgl) h hK
                · cases h
              · cases h
            · cases h
        · cases h
end Go.Aw

/- Loops whose private boxes change; what stands in a box may be appended to; data that are cut. No program is named. -/
namespace Go.Aw
open Go
section
variable {P : Program} {ty : TyT} {σ0 : Store} {N : Nat} {s s' : St} {Q : Exit → St → Prop}
theorem awp_loop_headKL {c : Code} {ι : Type} (no nt nl : Nat) (keep : List Nat) (m : ι → List (Nat × AV)) (L : ι → List (List AV)) (σf : ι → Store) (I : ι → Prop) (μ : ι → Nat) (i0 : ι) (hi0 : I i0) (h0 : Weak σ0 no nt nl s (headK s keep (m i0) (L i0) (σf i0)))
    (round : ∀ i, I i → AWp P σ0 N c (Then (Next σ0 (fun i => headK s keep (m i) (L i) (σf i)) I μ i) Q) (headK s keep (m i) (L i) (σf i))) : AWp P σ0 N (.loop c) Q s :=
  awp_loop_fam (fun i => headK s keep (m i) (L i) (σf i)) I μ i0 hi0 h0 round

/-- A slice without room that stands in a private box may be appended to from now on. -/
theorem awp_adoptL {c : Code} (i j : Nat) {cs : List AV} {x : AV} {xs : List PV} (e : TypeId) (sz : Nat) (hL : s.L[i]? = some cs) (hx : cs[j]? = some x) (hf : x.fullElems = some xs) (hs : allSz sz xs = true)
    (k : AWp P σ0 N c Q ⟨s.T, s.L.set i (cs.set j (.acc xs s.σ.toks.length)), { s.σ with toks := s.σ.toks ++ [⟨xs.length, e, sz⟩] }⟩) : AWp P σ0 N c Q s := by
  rintro g0 w0 a w ⟨g, r⟩
  obtain ⟨i1, le1⟩ := r.2.1.adopt ⟨xs.length, e, sz⟩
  have i2 : Inv { g with tb := g.tb ++ [none] } { s.σ with toks := s.σ.toks ++ [⟨xs.length, e, sz⟩] } (s.L.set i (cs.set j (.acc xs s.σ.toks.length))) w := by
    refine ⟨i1.lio, by simp only [List.length_set]; exact i1.llam, i1.ltb, i1.glob, i1.nodup, i1.low, i1.kept, i1.base, i1.cells, i1.objs, fun o ds b hds hb => ?_, i1.toks⟩
    rw [List.getElem?_set] at hds
    split at hds
    · subst_vars
      rw [if_pos (List.getElem?_eq_some_iff.1 hL).1] at hds
      cases hds
      obtain ⟨vs, e', h1, h2, h3, h4⟩ := r.2.1.priv _ cs b hL hb
      refine ⟨vs, e', h1, by rw [List.length_set]; exact h2, h3, fun n y v hy hv => ?_⟩
      rw [List.getElem?_set] at hy
      split at hy
      · subst_vars
        split at hy
        · cases hy
          exact (h4 _ x v hx hv).adopt hf r.2.1 ⟨xs.length, e, sz⟩ rfl (by simpa [allSz] using hs)
        · cases hy
      · exact (h4 n y v hy hv).mono le1 (fun _ _ h => h)
    · exact i1.priv o ds b hds hb
  exact k g0 w0 a w ⟨_, r.later (σ' := { s.σ with toks := s.σ.toks ++ [⟨xs.length, e, sz⟩] }) (L' := s.L.set i (cs.set j (.acc xs s.σ.toks.length))) le1 (fun _ _ h => h) i2 rfl rfl (fun _ _ => rfl) (Nat.le_refl _) rfl rfl rfl⟩

def adoptL (s : St) (i j : Nat) (e : TypeId) (sz : Nat) : Option St :=
  match s.L[i]? with
  | some cs => match cs[j]? with
    | some x => match x.fullElems with
      | some xs => if allSz sz xs = true then some ⟨s.T, s.L.set i (cs.set j (.acc xs s.σ.toks.length)), { s.σ with toks := s.σ.toks ++ [⟨xs.length, e, sz⟩] }⟩ else none
      | none => none
    | none => none
  | none => none

theorem awp_adoptL' {c : Code} (i j : Nat) (e : TypeId) (sz : Nat) (h : adoptL s i j e sz = some s') (k : AWp P σ0 N c Q s') : AWp P σ0 N c Q s := by
  unfold adoptL at h
  split at h
  · split at h
    · split at h
      · split at h
        · cases h; exact awp_adoptL i j e sz ‹_› ‹_› ‹_› ‹_› k
        · cases h
      · cases h
    · cases h
  · cases h
end
attribute [go_sem] adoptL
/-- A copy, as far as there is room. -/
def CutR (oc lf : Nat) (σ : Store) (r : AV) (σ' : Store) : Prop := ∃ (d' : D) (lf' : Nat), r = .pv (enc d') ∧ σ' = setC σ oc lf' ∧ d'.size + lf' ≤ lf
theorem setC_with {σ : Store} {o : Nat} {v v' : Int} {T : List Tok} : setC { setC σ o v with toks := T } o v' = { setC σ o v' with toks := T } := by simp [setC]
theorem enc_mk (k n : Int) (t : ByteArray) (l : List D) : enc (.mk k n t l) = .agg [.int .i64 k, .int .i64 n, .str t, .slice (l.map enc)] := by rw [enc_eq]; rfl
theorem cut_less {P : Program} {f : FuncId} {args : List AV} {σ : Store} {oc lf : Nat} {k n : Int} {tx : ByteArray}
    (h : ACalls P f args σ fun r σ' => ∃ (out : List D) (lv : Nat), WVt σ.objs.length σ.toks.length 0 r (.pv (enc (.mk k n tx out))) ∧ σ'.cut σ.objs.length σ.toks.length = setC σ oc lv ∧ D.sizes out + lv + 1 ≤ lf) : ACalls P f args σ (CutR oc lf σ) := by
  refine h.less ?_
  rintro r σ' ⟨out, lv, h1, h2, h3⟩
  refine ⟨_, _, _, h1, Nat.le_refl _, Nat.le_refl _, fun ob hob => ?_, ⟨_, lv, rfl, h2, by simp only [D.size]; omega⟩⟩
  have h4 : σ'.objs.take σ.objs.length = (setC σ oc lv).objs := congrArg Store.objs h2
  rw [h4] at hob
  exact setC_mem hob _ _ _
theorem cutR_some {oc lf : Nat} {σ : Store} (h : 0 < lf) : ∃ r σ', CutR oc lf σ r σ' := ⟨_, _, dnone, 0, rfl, rfl, by simp [dnone, D.size, D.sizes]; omega⟩
end Go.Aw

/- Terms of layer 25 (seven): by the specification. No program is named. -/
namespace Go.Aw
open Go
theorem GoodM.word_is {d : D} (h : GoodM d) {w : ByteArray} (hw : w ≠ es) : decide (word d = w) = isW d w := by
  by_cases hk : d.kind = 3
  · have hl := h.list hk
    have : word d = d.head.text := by
      unfold word
      rw [if_neg]
      simp only [Bool.or_eq_true, bne_iff_ne, beq_iff_eq, not_or, Decidable.not_not]
      refine ⟨⟨hk, fun e => hl.1 (List.eq_nil_of_length_eq_zero (by omega))⟩, hl.2.1⟩
    unfold isW
    rw [this, hk]; simp
  · rw [word_none (.inl hk)]
    unfold isW
    have : (d.kind == 3) = false := by simpa using hk
    rw [this]; simpa using Ne.symm hw
theorem GoodM.kids_inner {d : D} (h : GoodM d) : Aw.kidsM d = inner d := by
  by_cases hk : d.kind = 3
  · refine kidsM_inner ?_
    have hl := h.list hk
    have : word d = d.head.text := by
      unfold word
      rw [if_neg]
      simp only [Bool.or_eq_true, bne_iff_ne, beq_iff_eq, not_or, Decidable.not_not]
      refine ⟨⟨hk, fun e => hl.1 (List.eq_nil_of_length_eq_zero (by omega))⟩, hl.2.1⟩
    rw [this]
    exact sEs_ne (formed_sym hl.2.2.1 hl.2.1).2.2
  · rw [kidsM_none hk, inner_none hk]
theorem GoodM.form_ok {d : D} (h : GoodM d) : mform d = true := by
  have h0 : mbody d = 0 := by rw [mbody_mchk h.formed]; exact h.ok
  rw [mbody_eq] at h0
  cases hm : mform d with
  | true => rfl
  | false => rw [hm, if_pos (by decide)] at h0; cases h0
/-- What the form says of the list's length. -/
theorem mform_let {d : D} (h : mform d = true) (hw : word d = sLet) : 2 ≤ d.kids.length := by
  unfold mform at h
  have hk := word_ne (d := d) (by rw [hw]; decide)
  rw [if_neg (by rw [hk.1]; decide), if_neg (by rw [hk.1]; decide), hw, if_neg (by decide), if_neg (by decide), if_neg (by decide), if_pos (by decide)] at h
  simp only [Bool.and_eq_true, beq_iff_eq] at h
  omega
theorem mform_fn {d : D} (h : mform d = true) (hw : word d = sFn) : 3 ≤ d.kids.length := by
  unfold mform at h
  have hk := word_ne (d := d) (by rw [hw]; decide)
  rw [if_neg (by rw [hk.1]; decide), if_neg (by rw [hk.1]; decide), hw, if_neg (by decide), if_neg (by decide), if_neg (by decide), if_neg (by decide), if_pos (by decide)] at h
  simp only [Bool.and_eq_true, beq_iff_eq] at h
  omega
theorem kidsM_mem {d x : D} (h : x ∈ kidsM d) : x ∈ d.kids := List.mem_of_mem_drop h
theorem kidsM_len (d : D) : (kidsM d).length ≤ d.kids.length := by unfold kidsM; rw [List.length_drop]; omega
theorem mbodyL_zero {l : List D} : mbodyL l = 0 ↔ ∀ x, x ∈ l → mbody x = 0 := by
  induction l with
  | nil => simp [mbodyL, mbodys]
  | cons x l ih =>
    rw [mbodyL_cons]
    by_cases h : (mbody x != 0) = true
    · rw [if_pos h]
      simp at h
      exact ⟨fun e => absurd e h, fun e => absurd (e x (by simp)) h⟩
    · rw [if_neg h, ih]
      simp at h
      simp [h]
theorem mbodyL_none {l : List D} (h : NotYet (fun x => mbody x != 0) l l.length) : mbodyL l = 0 := mbodyL_zero.2 fun x hx => by simpa using h.all x hx
theorem mbodyL_at : ∀ {l : List D} {k : Nat} {x : D}, NotYet (fun x => mbody x != 0) l k → l[k]? = some x → (mbody x != 0) = true → mbodyL l = mbody x
  | [], k, x, h, hx, hc => by simp at hx
  | y :: l, 0, x, h, hx, hc => by
    simp only [List.getElem?_cons_zero, Option.some.injEq] at hx
    subst hx
    rw [mbodyL_cons, if_pos hc]
  | y :: l, k + 1, x, h, hx, hc => by
    have h0 := h 0 y (by omega) rfl
    simp only at h0
    rw [mbodyL_cons, h0, if_neg (by decide)]
    exact mbodyL_at (l := l) (k := k) (fun j z hj hz => h (j + 1) z (Nat.succ_lt_succ hj) (by simpa using hz)) (by simpa using hx) hc
/-- What is wrong with a datum as a term, by the specification. -/
def rcheckM (d : D) : Int := if (dcheck d != 0) = true then dcheck d else mbody d
theorem rcheckM_eq (d : D) : rcheckM d = mcheck d := by
  unfold rcheckM mcheck
  split
  · rfl
  · rename_i h
    exact mbody_mchk (dcheck_formed (by simpa using h))
theorem modify_last {l : List Tok} {t : Tok} {f : Tok → Tok} {n : Nat} (h : l.length = n) : (l ++ [t]).modify n f = l ++ [f t] := by subst h; exact modify_app
end Go.Aw

/- A run that is told whole, from an empty store: what it gives is looked at. No program is named. -/
namespace Go.Aw
open Go
mutual
def peq : PV → PV → Bool
  | .slice xs, .slice ys => peqs xs ys
  | .agg xs, .agg ys => peqs xs ys
  | .ptr xs, .ptr ys => peqs xs ys
  | .int k n, .int j m => pvAtomEq (.int k n) (.int j m)
  | .bool a, .bool b => a == b
  | .str a, .str b => decide (a = b)
  | .nils, .nils => true
  | .nilp, .nilp => true
  | .nilif, .nilif => true
  | .nilmap, .nilmap => true
  | .nilfn, .nilfn => true
  | _, _ => false
def peqs : List PV → List PV → Bool
  | [], [] => true
  | x :: xs, y :: ys => peq x y && peqs xs ys
  | _, _ => false
end
mutual
theorem peq_eq : ∀ {a b : PV}, peq a b = true → a = b
  | .slice xs, b, h => by cases b <;> simp [peq] at h; rw [peqs_eq h]
  | .agg xs, b, h => by cases b <;> simp [peq] at h; rw [peqs_eq h]
  | .ptr xs, b, h => by cases b <;> simp [peq] at h; rw [peqs_eq h]
  | .int k n, b, h => by cases b <;> simp [peq] at h; exact pvAtomEq_eq h
  | .bool a, b, h => by cases b <;> simp [peq] at h; rw [h]
  | .str a, b, h => by cases b <;> simp [peq] at h; rw [h]
  | .nils, b, h => by cases b <;> simp [peq] at h; rfl
  | .nilp, b, h => by cases b <;> simp [peq] at h; rfl
  | .nilif, b, h => by cases b <;> simp [peq] at h; rfl
  | .nilmap, b, h => by cases b <;> simp [peq] at h; rfl
  | .nilfn, b, h => by cases b <;> simp [peq] at h; rfl
  | .iface t p, b, h => by cases b <;> simp [peq] at h
  | .map ks vs, b, h => by cases b <;> simp [peq] at h
  | .tab k zs, b, h => by cases b <;> simp [peq] at h
theorem peqs_eq : ∀ {a b : List PV}, peqs a b = true → a = b
  | [], [], _ => rfl
  | x :: xs, y :: ys, h => by
    simp only [peqs, Bool.and_eq_true] at h
    rw [peq_eq h.1, peqs_eq h.2]
  | [], _ :: _, h => by simp [peqs] at h
  | _ :: _, [], h => by simp [peqs] at h
end
/-- Does the run give this, and leave nothing? -/
def gives (o : Option (AV × Store)) (q : PV) : Bool :=
  match o with
  | some (r, σ) => match r, σ.objs, σ.toks with
    | .pv p, [], [] => peq p q
    | _, _, _ => false
  | none => false

theorem purAt_eval {C : Cfg} {G : List (Nat × PV)} (H : CfgOk C G) {n : Nat} {f : FuncId} {args : List AV} {q : PV} (h : gives (evF C n f args ⟨G, [], []⟩) q = true) : PurAt C.P ⟨G, [], []⟩ f args (.pv q) := by
  cases he : evF C n f args ⟨G, [], []⟩ with
  | none => rw [he] at h; cases h
  | some p =>
    obtain ⟨r, σ'⟩ := p
    rw [he] at h
    have hg := evF_gl he
    have hc := (ev_sound H n).1 f args ⟨G, [], []⟩ r σ' rfl he
    obtain ⟨gl, objs, toks⟩ := σ'
    simp only [gives] at h
    split at h
    · simp only at hg
      subst hg
      rw [peq_eq h] at hc
      exact hc
    · cases h
end Go.Aw

/- Whether what stands in no order may be exchanged: the same look, by a table of what stands before what. No program is named. -/
namespace Go.Aw
open Go
def precRow (t : List Nat) (es : List Nat) : Nat := es.foldl (fun a j => a ||| ((1 <<< j) ||| t.getD j 0)) 0
def precTab (ops : Array Oper) : Nat → List Nat
  | 0 => []
  | n + 1 => let t := precTab ops n; t ++ [precRow t (edges ops .any n)]
def drawOkT (ops : Array Oper) (m : Nat) : Bool :=
  goesOn ops .any && goesOn ops .text && goesOn ops .gc &&
  (let t := precTab ops ops.size
   (List.range ops.size).all fun i =>
    ((edges ops .any i).all fun j => decide (j < i)) &&
    (let p := t.getD i 0
     (List.range i).all fun k => p.testBit k || (decide (i < m) && (match ops[k]?, ops[i]? with | some ok, some oi => swapOk ops ok oi | _, _ => false))))

theorem precRow_bit {t : List Nat} {k : Nat} : ∀ {es : List Nat} {a : Nat}, (es.foldl (fun a j => a ||| ((1 <<< j) ||| t.getD j 0)) a).testBit k = true → a.testBit k = true ∨ ∃ j, j ∈ es ∧ (k = j ∨ (t.getD j 0).testBit k = true)
  | [], a, h => .inl h
  | j :: es, a, h => by
    rw [List.foldl_cons] at h
    rcases precRow_bit h with h | ⟨j', h1, h2⟩
    · simp only [Nat.testBit_or, Bool.or_eq_true] at h
      rcases h with h | h | h
      · exact .inl h
      · refine .inr ⟨j, by simp, .inl ?_⟩
        rw [Nat.one_shiftLeft, Nat.testBit_two_pow] at h
        simpa [eq_comm] using h
      · exact .inr ⟨j, by simp, .inr h⟩
    · exact .inr ⟨j', by simp [h1], h2⟩

theorem precTab_len (ops : Array Oper) : ∀ n, (precTab ops n).length = n
  | 0 => rfl
  | n + 1 => by simp [precTab, precTab_len ops n]
theorem precTab_get (ops : Array Oper) : ∀ n i, i < n → (precTab ops n).getD i 0 = precRow (precTab ops i) (edges ops .any i)
  | 0, i, h => by omega
  | n + 1, i, h => by
    simp only [precTab, List.getD_eq_getElem?_getD]
    by_cases hi : i < n
    · rw [List.getElem?_append_left (by rw [precTab_len]; exact hi)]
      have := precTab_get ops n i hi
      rw [List.getD_eq_getElem?_getD] at this
      exact this
    · have : i = n := by omega
      subst this
      rw [List.getElem?_append_right (by rw [precTab_len]; omega), precTab_len]
      simp

theorem precTab_sound (ops : Array Oper) (hd : ∀ i, i < ops.size → ∀ j, j ∈ edges ops .any i → j < i) : ∀ i, i < ops.size → ∀ k f, i + 1 ≤ f → ((precTab ops ops.size).getD i 0).testBit k = true → k ∈ precs ops f i := by
  intro i
  induction i using Nat.strongRecOn with
  | _ i ih =>
    intro hi k f hf h
    rw [precTab_get ops _ i hi] at h
    unfold precRow at h
    obtain ⟨f, rfl⟩ : ∃ g, f = g + 1 := ⟨f - 1, by omega⟩
    rw [precs, List.mem_append, List.mem_flatMap]
    rcases precRow_bit h with h | ⟨j, h1, h2⟩
    · simp at h
    · have hj := hd i hi j h1
      rcases h2 with rfl | h2
      · exact .inl h1
      · refine .inr ⟨j, h1, ih j hj (by omega) k f (by omega) ?_⟩
        rw [precTab_get ops _ j (by omega)]
        rw [precTab_get ops i j hj] at h2
        exact h2

theorem drawOk_of {ops : Array Oper} {m : Nat} (h : drawOkT ops m = true) : drawOk ops m = true := by
  simp only [drawOkT, drawOk, Bool.and_eq_true, List.all_eq_true, List.mem_range, Bool.or_eq_true, decide_eq_true_eq] at h ⊢
  refine ⟨h.1, fun i hi k hk => ?_⟩
  rcases (h.2 i hi).2 k hk with h1 | h1
  · left
    rw [List.contains_iff_mem]
    exact precTab_sound ops (fun i hi => (h.2 i hi).1) i hi k ops.size (by omega) h1
  · exact .inr h1
end Go.Aw

/- Terms of layer 25 (eight): Erase and Lifted. No program is named. -/
namespace Go.Aw
open Go
theorem sym_self {d : D} (h : formed d = true) (hk : d.kind = 2) : dsym d.text = d := by
  obtain ⟨h1, h2, _⟩ := formed_sym h hk
  cases d
  simp only [D.kind, D.num, D.kids, D.text] at *
  subst h1 h2 hk
  rfl
theorem mName_kind {d : D} (h : mName d = true) : d.kind = 2 := by
  unfold mName at h
  simp only [Bool.and_eq_true, beq_iff_eq] at h
  exact h.1
theorem list_self {d : D} (h : formed d = true) (hk : d.kind = 3) : dlist d.kids = d := by
  obtain ⟨h1, h2⟩ := formed_list h hk
  cases d
  simp only [D.kind, D.num, D.kids, D.text] at *
  subst h1 h2 hk
  rfl
theorem nms_take {d : D} (h : formed d = true) (hn : ∀ x, x ∈ (d.kids.drop 1).take (shN d.head.text) → mName x = true) : (nmsD d).map dsym = (d.kids.drop 1).take (shN d.head.text) := by
  unfold nmsD
  rw [List.map_map]
  conv => rhs; rw [← List.map_id ((d.kids.drop 1).take (shN d.head.text))]
  refine List.map_congr_left fun x hx => ?_
  exact sym_self (formed_kids h (List.mem_of_mem_drop (List.mem_of_mem_take hx))) (mName_kind (hn x hx))
theorem GoodM.names {d : D} (h : GoodM d) (hk : d.kind = 3) (hq : d.head.text ≠ sQuote) : ∀ x, x ∈ (d.kids.drop 1).take (shN d.head.text) → mName x = true := by
  intro x hx
  rcases (h.list hk).2.2.2.2 with ⟨e, _⟩ | ⟨e, f, y, b, hks, _, hf, hy⟩ | ⟨e, y, a, b, hks, _, hy⟩ | ⟨_, hks, _, hf, hl, _⟩
  · exact absurd e hq
  · rw [e, show shN sFn = 2 from rfl, hks] at hx
    simp at hx
    rcases hx with rfl | rfl <;> assumption
  · rw [e, show shN sLet = 1 from rfl, hks] at hx
    simp at hx
    subst hx; exact hy
  · have : shN d.head.text = 0 := by
      rcases shp_cases d.head.text with ⟨e, s⟩ | ⟨e, s⟩ | ⟨e, s⟩ | ⟨e, s⟩ | ⟨e, s⟩ | ⟨e, s⟩ | ⟨e, s⟩ | ⟨e, s⟩ | ⟨s, _⟩
      all_goals first | exact absurd e hq | exact absurd e hf | exact absurd e hl | exact shN_of s | exact shN_none s
    rw [this] at hx
    simp at hx
/-- A term is its head, its names and the terms in it. -/
theorem GoodM.split {d : D} (h : GoodM d) (hk : d.kind = 3) (hq : d.head.text ≠ sQuote) : d.kids = d.head :: (nmsD d).map dsym ++ inner d := by
  rw [nms_take h.formed (h.names hk hq), inner_eq, if_neg (by rw [hk]; decide), if_neg (by simpa using hq)]
  obtain ⟨x0, r, hx⟩ := kids_cons (h.ne hk)
  rw [head_cons hx, hx]
  simp only [List.drop_succ_cons, List.drop_zero, List.cons_append]
  rw [show 1 + shN x0.text = shN x0.text + 1 by omega, List.drop_succ_cons, List.take_append_drop]
theorem GoodM.self {d : D} (h : GoodM d) (hk : d.kind = 3) (hq : d.head.text ≠ sQuote) : dlist (d.head :: (nmsD d).map dsym ++ inner d) = d := by rw [← h.split hk hq, list_self h.formed hk]
theorem made_kids (h : D) (ns : List ByteArray) (l : List D) : (dlist (h :: ns.map dsym ++ l)).kids = h :: (ns.map dsym ++ l) := rfl
theorem made_head (h : D) (ns : List ByteArray) (l : List D) : (dlist (h :: ns.map dsym ++ l)).head = h := rfl
theorem nms_made {h : D} {ns : List ByteArray} {l : List D} (hn : ns.length = shN h.text) : nmsD (dlist (h :: ns.map dsym ++ l)) = ns := by
  unfold nmsD
  rw [made_kids, made_head, List.drop_succ_cons, List.drop_zero, List.take_left' (by simp [hn]), List.map_map]
  conv => rhs; rw [← List.map_id ns]
  exact List.map_congr_left fun x _ => rfl
def lv (d : D) : Bool := isW d sLift || isW d sRun
def Flat (d : D) : Prop := ∀ x, x ∈ mall d → lv x = false
theorem Flat.part {d x : D} (h : Flat d) (hx : x ∈ inner d) : Flat x := fun y hy => h y (by rw [mall_eq]; exact List.mem_cons_of_mem _ (List.mem_flatMap.2 ⟨x, hx, hy⟩))
theorem Flat.self {d : D} (h : Flat d) : lv d = false := h d (by rw [mall_eq]; simp)
theorem inner_quote {d : D} (h : d.head.text = sQuote) : inner d = [] := by
  rw [inner_eq]
  split
  · rfl
  · rw [if_pos (by simpa using h)]
end Go.Aw

/- Terms of layer 25 (nine): Plain, by the specification. No program is named. -/
namespace Go.Aw
open Go
def mostStep (d : D) (rs : List (List ByteArray → Nat)) : List ByteArray → Nat := fun env => foldI (fun i r m => if m < r (env ++ bnd d i) then r (env ++ bnd d i) else m) 0 rs env.length
/-- How many names are bound at most at one place. -/
def mmost (d : D) : List ByteArray → Nat := mcata mostStep d
theorem mmost_eq (d : D) (env : List ByteArray) : mmost d env = foldI (fun i x m => if m < mmost x (env ++ bnd d i) then mmost x (env ++ bnd d i) else m) 0 (inner d) env.length := by
  unfold mmost
  rw [mcata_eq]
  unfold mostStep
  rw [foldI_map]
def mostK (d : D) (env : List ByteArray) (k : Nat) : Nat := foldI (fun i x m => if m < mmost x (env ++ bnd d i) then mmost x (env ++ bnd d i) else m) 0 ((inner d).take k) env.length
theorem mostK_zero {d : D} {env : List ByteArray} : mostK d env 0 = env.length := rfl
theorem mostK_step {d x : D} {env : List ByteArray} {k : Nat} (h : (inner d)[k]? = some x) : mostK d env (k + 1) = if mostK d env k < mmost x (env ++ bnd d k) then mmost x (env ++ bnd d k) else mostK d env k := foldI_next h
theorem mostK_next {d x : D} {env : List ByteArray} {k : Nat} (h : (inner d)[k]? = some x) : (if mostK d env k < mmost x (env ++ bnd d k) then ((mmost x (env ++ bnd d k) : Nat) : Int) else ((mostK d env k : Nat) : Int)) = ((mostK d env (k + 1) : Nat) : Int) := by
  rw [mostK_step h]; split <;> rfl
theorem mostK_all {d : D} {env : List ByteArray} : mostK d env (inner d).length = mmost d env := by unfold mostK; rw [List.take_length, ← mmost_eq]
theorem mmost_leaf {d : D} {env : List ByteArray} (h : inner d = []) : mmost d env = env.length := by rw [mmost_eq, h]; rfl
theorem fold_lt {α : Type} {g : Nat → α → Nat} {j : Nat} : ∀ {l : List α} {s m : Nat}, j < foldI (fun i x m => if m < g i x then g i x else m) s l m ↔ j < m ∨ ∃ (i : Nat) (x : α), l[i]? = some x ∧ j < g (s + i) x
  | [], s, m => by simp [foldI]
  | y :: l, s, m => by
    rw [foldI, fold_lt]
    constructor
    · rintro (h | ⟨i, x, h1, h2⟩)
      · split at h
        · exact .inr ⟨0, y, rfl, by simpa using h⟩
        · exact .inl h
      · exact .inr ⟨i + 1, x, by simpa using h1, by rw [show s + (i + 1) = s + 1 + i by omega]; exact h2⟩
    · rintro (h | ⟨i, x, h1, h2⟩)
      · left; split <;> omega
      · cases i with
        | zero =>
          simp only [List.getElem?_cons_zero, Option.some.injEq] at h1
          subst h1
          rw [Nat.add_zero] at h2
          left; split <;> omega
        | succ i => exact .inr ⟨i, x, by simpa using h1, by rw [show s + 1 + i = s + (i + 1) by omega]; exact h2⟩
theorem mmost_lt {d : D} {env : List ByteArray} {j : Nat} : j < mmost d env ↔ j < env.length ∨ ∃ (i : Nat) (x : D), (inner d)[i]? = some x ∧ j < mmost x (env ++ bnd d i) := by
  rw [mmost_eq, fold_lt (g := fun i x => mmost x (env ++ bnd d i))]
  simp only [Nat.zero_add]
theorem mmost_ge {d : D} {env : List ByteArray} : env.length ≤ mmost d env := by
  cases hn : env.length with
  | zero => omega
  | succ n => exact mmost_lt.2 (.inl (by omega))
/-- Where a term binds names, they are bound in one of the terms in it. -/
theorem GoodM.binds {d : D} (h : GoodM d) (hk : d.kind = 3) (hq : d.head.text ≠ sQuote) (hs : 0 < shN d.head.text) : ∃ (i : Nat) (y : D), (inner d)[i]? = some y ∧ bnd d i = nmsD d := by
  rcases (h.list hk).2.2.2.2 with ⟨e, _⟩ | ⟨e, f, y, b, hks, hi, hf, hy⟩ | ⟨e, y, a, b, hks, hi, hy⟩ | ⟨_, hks, _, hf, hl, _⟩
  · exact absurd e hq
  · refine ⟨0, b, by rw [hi]; rfl, ?_⟩
    have hw : isW d sFn = true := isW_iff.2 ⟨hk, e⟩
    unfold bnd nmsD
    rw [if_pos hw, e, show shN sFn = 2 from rfl, hks]; rfl
  · refine ⟨1, b, by rw [hi]; rfl, ?_⟩
    have hw : isW d sLet = true := isW_iff.2 ⟨hk, e⟩
    have hw2 : isW d sFn = false := by
      unfold isW
      rw [e]
      have : decide (sLet = sFn) = false := by decide
      rw [this]; simp
    unfold bnd nmsD
    rw [hw2, hw, if_neg (by decide), if_pos (by decide), e, show shN sLet = 1 from rfl, hks]; rfl
  · have : shN d.head.text = 0 := by
      rcases shp_cases d.head.text with ⟨e, s⟩ | ⟨e, s⟩ | ⟨e, s⟩ | ⟨e, s⟩ | ⟨e, s⟩ | ⟨e, s⟩ | ⟨e, s⟩ | ⟨e, s⟩ | ⟨s, _⟩
      all_goals first | exact absurd e hq | exact absurd e hf | exact absurd e hl | exact shN_of s | exact shN_none s
    omega
theorem mbnd_leaf {d : D} (h : d.kind ≠ 3 ∨ d.head.text = sQuote) : mbnd d = [] := by
  have hi : inner d = [] := by
    rcases h with h | h
    · exact inner_none h
    · exact inner_quote h
  rw [mbnd_eq, hi]
  have : (d.kind == 3 && !decide (d.head.text = sQuote)) = false := by
    rcases h with h | h
    · rw [show (d.kind == 3) = false by simpa using h]; rfl
    · rw [h]; simp
  rw [this]; rfl
/-- The names that a renamed term binds. -/
theorem mem_bound {d : D} : GoodM d → ∀ (env : List ByteArray) (x : ByteArray), x ∈ mbnd (mren d env) ↔ ∃ i : Nat, env.length ≤ i ∧ i < mmost d env ∧ x = namedB (i : Int) := by
  induction d using D.ind with
  | _ k n t l ih =>
    generalize hd : D.mk k n t l = d at *
    have hl : d.kids = l := by rw [← hd]; rfl
    subst hl
    clear hd
    intro hg env x
    have hleaf : ∀ m : D, m.kind ≠ 3 ∨ m.head.text = sQuote → inner d = [] → (x ∈ mbnd m ↔ ∃ i : Nat, env.length ≤ i ∧ i < mmost d env ∧ x = namedB (i : Int)) := by
      intro m hm hi
      rw [mbnd_leaf hm, mmost_leaf hi]
      constructor
      · intro h; simp at h
      · rintro ⟨i, h1, h2, _⟩; omega
    rw [mren_eq]
    split
    · rename_i h2
      have hk2 : d.kind = 2 := by simpa using h2
      have hi := inner_none (d := d) (by rw [hk2]; decide)
      split
      · exact hleaf _ (.inl (by show (2 : Int) ≠ 3; decide)) hi
      · exact hleaf _ (.inl (by rw [hk2]; decide)) hi
    · split
      · rename_i h3
        have hk : d.kind ≠ 3 := by simpa using h3
        exact hleaf _ (.inl hk) (inner_none hk)
      · split
        · rename_i hq
          have hq' : d.head.text = sQuote := by simpa using hq
          exact hleaf _ (.inr hq') (inner_quote hq')
        · rename_i h3 hq
          have hk : d.kind = 3 := by simpa using h3
          have hq' : d.head.text ≠ sQuote := by simpa using hq
          have hnl := newN_len d env.length
          rw [mbnd_eq, inner_made hq' hnl, made_head, nms_made hnl, if_pos (by show ((3 : Int) == 3 && !decide (d.head.text = sQuote)) = true; rw [decide_eq_false hq']; rfl), List.mem_append]
          constructor
          · rintro (hx | hx)
            · unfold newN at hx
              obtain ⟨j, hj, rfl⟩ := List.mem_map.1 hx
              have hj' : j < shN d.head.text := List.mem_range.1 hj
              obtain ⟨i, y, hy, hb⟩ := hg.binds hk hq' (by omega)
              refine ⟨env.length + j, by omega, ?_, rfl⟩
              refine mmost_lt.2 (.inr ⟨i, y, hy, ?_⟩)
              refine Nat.lt_of_lt_of_le ?_ mmost_ge
              rw [List.length_append, hb, hg.nms hk hq']; omega
            · obtain ⟨z, hz, hxz⟩ := List.mem_flatMap.1 hx
              obtain ⟨i, y, hy, rfl⟩ := mapI_mem hz
              have hym := List.mem_of_getElem? hy
              obtain ⟨j, h1, h2, rfl⟩ := (ih y (inner_mem hym) (hg.part hym) _ x).1 hxz
              rw [List.length_append] at h1
              exact ⟨j, by omega, mmost_lt.2 (.inr ⟨i, y, hy, h2⟩), rfl⟩
          · rintro ⟨j, h1, h2, rfl⟩
            rcases mmost_lt.1 h2 with h3 | ⟨i, y, hy, h3⟩
            · omega
            · have hym := List.mem_of_getElem? hy
              by_cases hlt : (env ++ bnd d i).length ≤ j
              · right
                refine List.mem_flatMap.2 ⟨mren y (env ++ bnd d i), ?_, ?_⟩
                · exact List.mem_of_getElem? (i := i) (by rw [mapI_get, hy]; rfl)
                · exact (ih y (inner_mem hym) (hg.part hym) _ _).2 ⟨j, hlt, h3, rfl⟩
              · left
                rw [List.length_append] at hlt
                have hb : (bnd d i).length ≤ shN d.head.text := by
                  rcases hg.bnd_nms hk i with e | e
                  · rw [e]; simp
                  · rw [e, hg.nms hk hq']; omega
                unfold newN
                refine List.mem_map.2 ⟨j - env.length, List.mem_range.2 (by omega), ?_⟩
                rw [show env.length + (j - env.length) = j by omega]
theorem pname_named {n : Int} (h0 : 0 ≤ n) (h1 : n ≤ 9223372036854775807) : pname (namedB n) = true := by
  have hi : (itoaB n).size ≠ 0 := by
    intro h
    have := atoiR_itoa h0 h1
    have h2 : itoaB n = ByteArray.empty := by
      apply ByteArray.ext
      exact Array.eq_empty_of_size_eq_zero h
    rw [h2] at this
    have h3 : atoiR ByteArray.empty = (0, false) := by rfl
    rw [h3] at this
    cases this
  have hs : (namedB n).size = 2 + (itoaB n).size := by unfold namedB; rw [ByteArray.size_append]; rfl
  have h2 : (namedB n).extract 0 2 = ⟨#[120, 46]⟩ := by unfold namedB; exact ByteArray.extract_append_eq_left rfl
  have h3 : (namedB n).extract 2 (namedB n).size = itoaB n := by rw [hs]; unfold namedB; exact ByteArray.extract_append_eq_right rfl rfl
  unfold pname
  rw [h2, h3, atoiR_itoa h0 h1, if_neg (by rw [hs]; simp; omega)]
  simp [h0]
theorem mmost_le {d : D} : ∀ env : List ByteArray, mmost d env ≤ env.length + 2 * d.size := by
  induction d using D.ind with
  | _ k n t l ih =>
    generalize hd : D.mk k n t l = d at *
    have hl : d.kids = l := by rw [← hd]; rfl
    subst hl
    clear hd
    intro env
    have hp := D.size_pos d
    refine Decidable.byContradiction fun h => ?_
    rcases mmost_lt.1 (show env.length + 2 * d.size < mmost d env by omega) with h1 | ⟨i, x, hx, h1⟩
    · omega
    · have hxm := inner_mem (List.mem_of_getElem? hx)
      have h2 := ih x hxm (env ++ bnd d i)
      have h3 := D.size_kid_lt hxm
      have h4 := bnd_len d i
      rw [List.length_append] at h2
      omega
/-- One of the plain names below a number is free. -/
def rclash (d : D) : Bool := (List.range (mmost d [])).any fun i => memB (mfree d [] []) (namedB (i : Nat))
theorem rclash_eq {d : D} (hg : GoodM d) (hs : d.size ≤ 1000000000) : rclash d = mclash d := by
  rw [Bool.eq_iff_iff]
  unfold rclash mclash
  rw [List.any_eq_true, List.any_eq_true]
  have hm := mmost_le (d := d) []
  simp only [List.length_nil, Nat.zero_add] at hm
  constructor
  · rintro ⟨i, hi, h⟩
    have hi' := List.mem_range.1 hi
    refine ⟨namedB (i : Nat), memB_iff.1 h, ?_⟩
    rw [pname_named (by omega) (by omega), Bool.true_and]
    unfold mused
    rw [memB_fold, Bool.or_eq_true]
    right
    exact memB_iff.2 ((mem_bound hg [] _).2 ⟨i, by simp, hi', rfl⟩)
  · rintro ⟨x, hx, h⟩
    rw [Bool.and_eq_true] at h
    have h2 := h.2
    unfold mused at h2
    rw [memB_fold, Bool.or_eq_true] at h2
    rcases h2 with h2 | h2
    · cases h2
    · obtain ⟨i, _, h3, rfl⟩ := (mem_bound hg [] _).1 (memB_iff.1 h2)
      exact ⟨i, List.mem_range.2 h3, memB_iff.2 hx⟩
def rplain (d : D) : D × Int := if rclash d = true then (dnone, 6) else if (dcheck (mren d []) != 0) = true then (dnone, 3) else (mren d [], 0)
theorem rplain_eq {d : D} (h : mcheck d = 0) (hs : d.size ≤ 1000000000) : rplain d = mplain d := by
  unfold rplain mplain
  rw [rclash_eq (mcheck_good h) hs, h, if_neg (show ¬ ((0 : Int) != 0) = true by decide)]
/-! ### renamings -/
def newS (env : List ByteArray) : List ByteArray := (List.range env.length).map fun i => namedB (i : Nat)
def encR (env : List ByteArray) : PV := .agg [.slice (env.map .str), .slice ((newS env).map .str)]
theorem newS_length (env : List ByteArray) : (newS env).length = env.length := by simp [newS]
theorem newS_snoc (env : List ByteArray) (x : ByteArray) : newS (env ++ [x]) = newS env ++ [namedB (env.length : Nat)] := by simp [newS, List.range_succ]
def rfindS (env : List ByteArray) (s : ByteArray) : ByteArray := match lastI env s with | some i => namedB (i : Nat) | none => s
theorem mren_sym {d : D} (h : GoodM d) (hk : d.kind = 2) (env : List ByteArray) : mren d env = dsym (rfindS env d.text) ∧ mmost d env = env.length := by
  refine ⟨?_, mmost_leaf (inner_none (by rw [hk]; decide))⟩
  rw [mren_eq, if_pos (by rw [hk]; rfl)]
  unfold rfindS
  cases lastI env d.text with
  | none => exact (sym_self h.formed hk).symm
  | some i => rfl
theorem mren_num {d : D} (hk : d.kind = 1) (env : List ByteArray) : mren d env = d ∧ mmost d env = env.length := by
  refine ⟨?_, mmost_leaf (inner_none (by rw [hk]; decide))⟩
  rw [mren_eq, if_neg (by rw [hk]; decide), if_pos (by rw [hk]; decide)]
theorem mren_quote {d : D} (hw : isW d sQuote = true) (env : List ByteArray) : mren d env = d ∧ mmost d env = env.length := by
  obtain ⟨hk, hq⟩ := isW_iff.1 hw
  refine ⟨?_, mmost_leaf (inner_quote hq)⟩
  rw [mren_eq, if_neg (by rw [hk]; decide), if_neg (by rw [hk]; decide), if_pos (decide_eq_true hq)]
theorem mren_list {d : D} (hk : d.kind = 3) (hq : d.head.text ≠ sQuote) (env : List ByteArray) : mren d env = dlist (d.head :: (newN d env.length).map dsym ++ mapI (fun i x => mren x (env ++ bnd d i)) (inner d)) := by
  rw [mren_eq, if_neg (by rw [hk]; decide), if_neg (by rw [hk]; decide), if_neg (by rw [decide_eq_false hq]; decide)]
theorem bnd_fn {d : D} (hw : isW d sFn = true) (i : Nat) : bnd d i = [(d1 d.kids).text, (d2 d.kids).text] := by unfold bnd; rw [if_pos hw]
theorem bnd_let {d : D} (hw : isW d sLet = true) (i : Nat) : bnd d i = if i = 1 then [(d1 d.kids).text] else [] := by
  have hw2 : isW d sFn = false := by
    obtain ⟨_, e⟩ := isW_iff.1 hw
    unfold isW
    rw [e]
    have : decide (sLet = sFn) = false := by decide
    rw [this]; simp
  unfold bnd
  rw [hw2, hw, if_neg (by decide), Bool.true_and]
  by_cases h : i = 1
  · rw [if_pos h, if_pos (by rw [h]; rfl)]
  · rw [if_neg h, if_neg (by simp; omega)]
theorem bnd_op {d : D} (hf : isW d sFn = false) (hl : isW d sLet = false) (i : Nat) : bnd d i = [] := by unfold bnd; rw [hf, hl]; rfl
theorem shN_op {s : ByteArray} (hf : s ≠ sFn) (hl : s ≠ sLet) : shN s = 0 := by
  rcases shp_cases s with ⟨e, h⟩ | ⟨e, h⟩ | ⟨e, h⟩ | ⟨e, h⟩ | ⟨e, h⟩ | ⟨e, h⟩ | ⟨e, h⟩ | ⟨e, h⟩ | ⟨h, _⟩
  all_goals first | exact absurd e hf | exact absurd e hl | exact shN_of h | exact shN_none h
theorem isW_ne {d : D} (hk : d.kind = 3) {w : ByteArray} (h : isW d w = false) : d.head.text ≠ w := fun e => by rw [isW_iff.2 ⟨hk, e⟩] at h; cases h
theorem newN_2 {d : D} (h : shN d.head.text = 2) (n : Nat) : newN d n = [namedB (n : Nat), namedB ((n + 1 : Nat) : Int)] := by unfold newN; rw [h]; rfl
theorem newN_1 {d : D} (h : shN d.head.text = 1) (n : Nat) : newN d n = [namedB (n : Nat)] := by unfold newN; rw [h]; rfl
theorem newN_0 {d : D} (h : shN d.head.text = 0) (n : Nat) : newN d n = [] := by unfold newN; rw [h]; rfl
theorem newS_get {env : List ByteArray} {i : Nat} (h : i < env.length) : (newS env)[i]? = some (namedB (i : Nat)) := by simp [newS, h]
end Go.Aw

/- From the row's reading of memory to abstract values, and back: data, slices, laid tables; what the row says behind a call that has turned nothing old. No program is named. -/
namespace Go.Aw
open Go Go.ChangeShapes Go.WideShapes Go.ChangeAt Go.WideMaps Go.WideElems Go.RowKit
theorem exists_list {α : Type} {Q : Nat → α → Prop} : ∀ n : Nat, (∀ i, i < n → ∃ d, Q i d) → ∃ l : List α, l.length = n ∧ ∀ i x, l[i]? = some x → Q i x
  | 0, _ => ⟨[], rfl, fun i x h => by simp at h⟩
  | n + 1, h => by
    obtain ⟨l, h1, h2⟩ := exists_list n (fun i hi => h i (by omega))
    obtain ⟨d, hd⟩ := h n (by omega)
    refine ⟨l ++ [d], by simp [h1], fun i x hx => ?_⟩
    rcases getElem?_snoc hx with hx | ⟨rfl, rfl⟩
    · exact h2 i x hx
    · rw [h1]; exact hd

theorem rp_slice_of {B : Nat} {S : Nat → Nat → Prop} {w : World} {a : Addr} {len cap sz : Nat} {xs : List PV} (hlen : xs.length = len) (hcap : len ≤ cap) (hb : a.block < B) (h0 : 0 < sz) (hsz : ∀ x, x ∈ xs → x.cells.length = sz)
    (h : ∀ (q : Nat) x, xs[q]? = some x → ∃ cs : List Value, cs.length = sz ∧ (∀ r, r < sz → w.cell? ((a.add (q * sz)).add r) = cs[r]?) ∧ (∀ v, v ∈ cs → v.oneCell' = true) ∧ ∀ (r : Nat) y v, x.cells[r]? = some y → cs[r]? = some v → RP B S w y v) :
    RP B S w (.slice xs) (.slice (some a) len cap) := by
  by_cases hl : xs = []
  · subst hl; simp at hlen; subst hlen; exact .empty
  have hspot : a.spot = none := by
    obtain ⟨x, r, hx⟩ := kids_cons hl
    obtain ⟨cs, h1, h2, _⟩ := h 0 x (by rw [hx]; rfl)
    have h3 := h2 0 h0
    rw [Nat.zero_mul, Addr.add, if_pos rfl, Addr.add, if_pos rfl] at h3
    have h4 : cs[0]? = some cs[0] := by simp
    rw [h4] at h3
    unfold World.cell? at h3
    cases hs : a.spot with
    | none => rfl
    | some s =>
      rw [hs] at h3
      split at h3 <;> simp at h3
  have hadd : ∀ n, a.add n = ⟨a.block, a.off + n, none⟩ := by
    intro n
    unfold Addr.add
    split
    · subst_vars; cases a; simp only at hspot; subst hspot; rfl
    · rfl
  have hadd2 : ∀ n m, (a.add n).add m = ⟨a.block, a.off + (n + m), none⟩ := by
    intro n m
    rw [hadd]
    unfold Addr.add
    split
    · subst_vars; rfl
    · show (⟨a.block, a.off + n + m, none⟩ : Addr) = _
      rw [Nat.add_assoc]
  have ha : a = ⟨a.block, a.off, none⟩ := by cases a; simp only at hspot; subst hspot; rfl
  have hall : ∀ i, i < len * sz → ∃ (q r : Nat) (x : PV) (cs : List Value), i = q * sz + r ∧ r < sz ∧ xs[q]? = some x ∧ cs.length = sz ∧ w.cell? ⟨a.block, a.off + i, none⟩ = cs[r]? ∧ (∀ v, v ∈ cs → v.oneCell' = true) ∧ ∀ (r : Nat) y v, x.cells[r]? = some y → cs[r]? = some v → RP B S w y v := by
    intro i hi
    have hq : i / sz < len := Nat.div_lt_of_lt_mul (by rw [Nat.mul_comm]; exact hi)
    have hr : i % sz < sz := Nat.mod_lt _ h0
    have hx : xs[i / sz]? = some xs[i / sz] := by simp [hlen, hq]
    obtain ⟨cs, h1, h2, h3, h4⟩ := h _ _ hx
    have h5 := h2 (i % sz) hr
    have he : i / sz * sz + i % sz = i := by rw [Nat.mul_comm]; exact Nat.div_add_mod i sz
    rw [hadd2, he] at h5
    exact ⟨i / sz, i % sz, _, cs, he.symm, hr, hx, h1, h5, h3, h4⟩
  rw [ha, ← hlen]
  refine RP.slice (sz := sz) (vs := (List.range (len * sz)).map fun j => (w.cell? ⟨a.block, a.off + j, none⟩).getD (.int .i64 0)) hsz (by simp [hlen]) (by omega) (fun i v hv => ?_) (fun i y v hy hv => ?_)
  · have hi : i < len * sz := by have := (List.getElem?_eq_some_iff.1 hv).1; simpa using this
    obtain ⟨q, r, x, cs, h1, h2, h3, h4, h5, h6, h7⟩ := hall i hi
    have h8 : cs[r]? = some cs[r] := by simp [h4, h2]
    rw [h8] at h5
    simp only [List.getElem?_map, List.getElem?_range hi, Option.map_some, Option.some.injEq, h5, Option.getD_some] at hv
    subst hv
    exact ⟨.inl hb, h5, h6 _ (List.getElem_mem _)⟩
  · have hi : i < len * sz := by have := (List.getElem?_eq_some_iff.1 hv).1; simpa using this
    obtain ⟨q, r, x, cs, h1, h2, h3, h4, h5, h6, h7⟩ := hall i hi
    have h8 : cs[r]? = some cs[r] := by simp [h4, h2]
    rw [h8] at h5
    simp only [List.getElem?_map, List.getElem?_range hi, Option.map_some, Option.some.injEq, h5, Option.getD_some] at hv
    subst hv
    rw [h1, flat_get hsz h3 h2] at hy
    exact h7 r y _ hy h8

/-! ### data -/
structure DatumTy (P : Program) (tD tK ti tn ts : TypeId) : Prop where
  und : ∃ f0 f1 f2 f3 : Field, P.underlying tD = some (.struct #[f0, f1, f2, f3]) ∧ f0.type = ti ∧ f0.offset = 0 ∧ f1.type = tn ∧ f1.offset = 1 ∧ f2.type = ts ∧ f2.offset = 2 ∧ f3.type = tK ∧ f3.offset = 3
  i : P.underlying ti = some (.int .i64)
  n : P.underlying tn = some (.int .i64)
  s : P.underlying ts = some .string
  k : P.underlying tK = some (.slice tD)
  cD : P.cellsOf tD = 4
  ci : P.cellsOf ti = 1
  cn : P.cellsOf tn = 1
  cs : P.cellsOf ts = 1
  ck : P.cellsOf tK = 1

theorem one_of {α : Type} {l : List α} {i : Nat} {a : α} (h : (l.drop i).take 1 = [a]) : l[i]? = some a := by
  have h1 : ((l.drop i).take 1)[0]? = some a := by rw [h]; rfl
  rw [List.getElem?_take, List.getElem?_drop] at h1
  simpa using h1

section
variable {H : Type} {enc' : TypeId × Value → H} {P : Program} {w : World} {base : Nat} {spare : Nat → Bool} {held : Bool} {tD tK ti tn ts : TypeId} {S : Nat → Nat → Prop}
theorem open_datum (T : DatumTy P tD tK ti tn ts) : ∀ (fuel : Nat) (cs : List Value) (x : DataW H × List MemPlace), DataW.trod enc' P w base spare held fuel tD cs = some x →
    ∃ (d : D) (v : Value), cs = [.int .i64 d.kind, .int .i64 d.num, .string d.text, v] ∧ v.oneCell' = true ∧ RP w.heap.size S w (.slice (d.kids.map enc)) v := by
  intro fuel
  induction fuel using Nat.strongRecOn with
  | _ fuel ih =>
    intro cs x h
    obtain ⟨f0, f1, f2, f3, hu, t0, o0, t1, o1, t2, o2, t3, o3⟩ := T.und
    obtain ⟨xs, n, rfl, rfl, hl, hlen, hf⟩ := DataW.trod_struct hu h
    have hxl : xs.length = 4 := by simpa using hlen
    have g0 := hf 0 f0 rfl
    have g1 := hf 1 f1 rfl
    have g2 := hf 2 f2 rfl
    have g3 := hf 3 f3 rfl
    rw [t0, o0, T.ci] at g0
    rw [t1, o1, T.cn] at g1
    rw [t2, o2, T.cs] at g2
    rw [t3, o3, T.ck] at g3
    have s0 : xs[0]? = some xs[0] := by simp
    have s1 : xs[1]? = some xs[1] := by simp
    have s2 : xs[2]? = some xs[2] := by simp
    have s3 : xs[3]? = some xs[3] := by simp
    rw [s0] at g0
    rw [s1] at g1
    rw [s2] at g2
    rw [s3] at g3
    obtain ⟨k, e0, _, _⟩ := DataW.trod_int T.i g0
    obtain ⟨m, e1, _, _⟩ := DataW.trod_int T.n g1
    obtain ⟨t, e2, _, _⟩ := DataW.trod_string T.s g2
    have a0 := one_of e0
    have a1 := one_of e1
    have a2 := one_of e2
    rw [T.cD] at hl
    have hcs : ∃ v, cs = [.int .i64 k, .int .i64 m, .string t, v] := by
      match cs, hl, a0, a1, a2 with
      | [c0, c1, c2, c3], _, a0, a1, a2 =>
        simp only [List.getElem?_cons_zero, List.getElem?_cons_succ, Option.some.injEq] at a0 a1 a2
        exact ⟨c3, by rw [a0, a1, a2]⟩
    obtain ⟨v, hcs⟩ := hcs
    rw [hcs] at g3
    have g3' : DataW.trod enc' P w base spare held n tK [v] = some xs[3] := g3
    rcases DataW.trod_slice T.k g3' with ⟨hv, _⟩ | ⟨a, len, cap, elems, rest, m', rfl, hv, _, hb, hlc, hcm, hel, hes, _⟩
    · cases hv
      exact ⟨.mk k m t [], _, hcs, rfl, by simp only [D.kids, List.map_nil]; exact .empty⟩
    · cases hv
      rw [T.cD] at hes
      have hex : ∀ i, i < len → ∃ d : D, ∃ v' : Value, (∀ r, r < 4 → w.cell? ((a.add (i * 4)).add r) = ([.int .i64 d.kind, .int .i64 d.num, .string d.text, v'] : List Value)[r]?) ∧ v'.oneCell' = true ∧ RP w.heap.size S w (.slice (d.kids.map enc)) v' := by
        intro i hi
        have h1 := hes i hi
        have h2 : elems[i]? = some elems[i] := by simp [hel, hi]
        rw [h2] at h1
        obtain ⟨cs', hc, ht⟩ := Option.bind_eq_some_iff.1 h1
        obtain ⟨_, _, hc2⟩ := World.cells?_some hc
        obtain ⟨d, v', he, hone, hrp⟩ := ih m' (by omega) cs' _ ht
        subst he
        exact ⟨d, v', hc2, hone, hrp⟩
      obtain ⟨l, hll, hlq⟩ := exists_list len hex
      refine ⟨.mk k m t l, _, hcs, rfl, ?_⟩
      show RP w.heap.size S w (.slice (l.map enc)) (.slice (some a) len cap)
      by_cases hlen0 : len = 0
      · subst hlen0
        have : l = [] := List.eq_nil_of_length_eq_zero hll
        subst this
        exact .empty
      have hblk : a.block < w.heap.size := by
        obtain ⟨d, v', h1, _⟩ := hex 0 (by omega)
        have h2 := h1 0 (by omega)
        rw [Nat.zero_mul, Addr.add, if_pos rfl, Addr.add, if_pos rfl] at h2
        unfold World.cell? at h2
        by_cases hlt : a.block < w.heap.size
        · exact hlt
        · rw [Array.getElem?_eq_none (by omega)] at h2; simp at h2
      refine rp_slice_of (sz := 4) (by simp [hll]) hlc hblk (by omega) (fun x hx => ?_) (fun q x hx => ?_)
      · obtain ⟨d, _, rfl⟩ := List.mem_map.1 hx
        rw [enc_cells]; rfl
      · rw [List.getElem?_map] at hx
        obtain ⟨d, hd, rfl⟩ := Option.map_eq_some_iff.1 hx
        obtain ⟨v', h1, h2, h3⟩ := hlq q d hd
        refine ⟨[.int .i64 d.kind, .int .i64 d.num, .string d.text, v'], rfl, h1, fun u hu => ?_, fun r y u hy hu => ?_⟩
        · simp only [List.mem_cons, List.not_mem_nil, or_false] at hu
          rcases hu with rfl | rfl | rfl | rfl <;> first | rfl | exact h2
        · rw [enc_cells] at hy
          match r with
          | 0 => simp at hy hu; subst hy hu; exact .int
          | 1 => simp at hy hu; subst hy hu; exact .int
          | 2 => simp at hy hu; subst hy hu; exact .str
          | 3 => simp at hy hu; subst hy hu; exact h3
          | r + 4 => simp at hy
end
end Go.Aw

/- Laid tables as abstract values; the beginning of a call; what the row says behind it. No program is named. -/
namespace Go.Aw
open Go Go.ChangeShapes Go.WideShapes Go.ChangeAt Go.WideMaps Go.WideElems Go.RowKit
theorem insert_perm {H : Type} (x : Lit × DataW H) : ∀ l : List (Lit × DataW H), (DataW.insert x l).Perm (x :: l)
  | [] => .refl _
  | y :: r => by
    unfold DataW.insert
    split
    · exact .refl _
    · exact ((insert_perm x r).cons y).trans (.swap _ _ _)
theorem foldr_insert_perm {H : Type} : ∀ l : List (Lit × DataW H), (l.foldr DataW.insert []).Perm l
  | [] => .refl _
  | x :: l => (insert_perm x _).trans ((foldr_insert_perm l).cons x)

def strPV (s : List UInt8) : PV := .str ⟨s.toArray⟩
def litStr : Lit → List UInt8
  | .string s => s
  | _ => []

section
variable {H : Type} {enc' : TypeId × Value → H} {P : Program} {w : World} {base : Nat} {sp : Nat → Bool} {held : Bool} {S : Nat → Nat → Prop} {t k e : TypeId} {fuel : Nat} {cs : List Value} {ps : List MemPlace}
/-- A table of names and numbers. -/
theorem open_table {f0 f1 : Field} (ht : P.underlying t = some (.slice e)) (he : P.underlying e = some (.struct #[f0, f1])) (hf0 : P.underlying f0.type = some .string) (hf1 : P.underlying f1.type = some (.int .i64)) (o0 : f0.offset = 0) (o1 : f1.offset = 1)
    (c0 : P.cellsOf f0.type = 1) (c1 : P.cellsOf f1.type = 1) (ce : P.cellsOf e = 2) {L : List (List UInt8 × Int)} {r : List (DataW H)}
    (h : DataW.trod enc' P w base sp held fuel t cs = some (.slice (L.map fun p => .agg [.lit (.string p.1), .lit (.int .i64 p.2)]) r, ps)) :
    ∃ v, cs = [v] ∧ v.oneCell' = true ∧ RP w.heap.size S w (.slice (L.map fun p => .agg [strPV p.1, .int .i64 p.2])) v := by
  rcases DataW.trod_slice ht h with ⟨_, hx⟩ | ⟨a, len, cap, elems, rest, m, rfl, rfl, hx, hb, hlc, hcm, hel, hes, _⟩
  · cases hx
  simp only [Prod.mk.injEq, DataW.slice.injEq] at hx
  have hLl : L.length = len := by
    have := congrArg List.length hx.1.1
    simpa [hel] using this
  refine ⟨_, rfl, rfl, ?_⟩
  by_cases hL : L = []
  · subst hL; simp at hLl; subst hLl; exact .empty
  rw [ce] at hes
  have key : ∀ (i : Nat) (p : List UInt8 × Int), L[i]? = some p → ∃ s : ByteArray, s.data.toList = p.1 ∧ ∀ j, j < 2 → w.cell? ((a.add (i * 2)).add j) = ([.string s, .int .i64 p.2] : List Value)[j]? := by
    intro i p hp
    have hi : i < len := by rw [← hLl]; exact (List.getElem?_eq_some_iff.1 hp).1
    have h1 := hes i hi
    have h2 : elems[i]? = some elems[i] := by simp [hel, hi]
    rw [h2] at h1
    obtain ⟨cs', hc, hstr⟩ := Option.bind_eq_some_iff.1 h1
    obtain ⟨_, hcl, hc2⟩ := World.cells?_some hc
    obtain ⟨xs, n, rfl, hxe, hl, hlen, hf⟩ := DataW.trod_struct he hstr
    have hxl : xs.length = 2 := by simpa using hlen
    have g0 := hf 0 f0 rfl
    have g1 := hf 1 f1 rfl
    rw [o0, c0] at g0
    rw [o1, c1] at g1
    have s0 : xs[0]? = some xs[0] := by simp
    have s1 : xs[1]? = some xs[1] := by simp
    rw [s0] at g0
    rw [s1] at g1
    obtain ⟨st, e0, x0, _⟩ := DataW.trod_string hf0 g0
    obtain ⟨q, e1, x1, _⟩ := DataW.trod_int hf1 g1
    have a0 := one_of e0
    have a1 := one_of e1
    have hval : elems[i].1 = .agg [.lit (.string p.1), .lit (.int .i64 p.2)] := by
      have h3 : (elems.map (·.1))[i]? = some elems[i].1 := by rw [List.getElem?_map, h2]; rfl
      rw [← hx.1.1, List.getElem?_map, hp] at h3
      simpa using h3.symm
    have hxs : xs = [xs[0], xs[1]] := by
      refine List.ext_getElem (by simp [hxl]) (fun j h1 h2 => ?_)
      match j with
      | 0 => rfl
      | 1 => rfl
      | j + 2 => simp only [List.length_cons, List.length_nil] at h2; omega
    rw [hxe, hxs] at hval
    simp only [List.map_cons, List.map_nil, DataW.agg.injEq, List.cons.injEq, x0, x1, DataW.lit.injEq, Lit.string.injEq, Lit.int.injEq, and_true, true_and] at hval
    have hcs : cs' = [.string st, .int .i64 q] := by
      match cs', hcl, a0, a1 with
      | [u, v], _, a0, a1 =>
        simp only [List.getElem?_cons_zero, List.getElem?_cons_succ, Option.some.injEq] at a0 a1
        rw [a0, a1]
    rw [hcs, hval.2] at hc2
    exact ⟨st, hval.1, hc2⟩
  have hblk : a.block < w.heap.size := by
    obtain ⟨p, r, hp⟩ := kids_cons hL
    obtain ⟨s, _, h1⟩ := key 0 p (by rw [hp]; rfl)
    have h2 := h1 0 (by omega)
    rw [Nat.zero_mul, Addr.add, if_pos rfl, Addr.add, if_pos rfl] at h2
    unfold World.cell? at h2
    by_cases hlt : a.block < w.heap.size
    · exact hlt
    · rw [Array.getElem?_eq_none (by omega)] at h2; simp at h2
  refine rp_slice_of (sz := 2) (by simp [hLl]) hlc hblk (by omega) (fun x hx => ?_) (fun q x hx => ?_)
  · obtain ⟨p, _, rfl⟩ := List.mem_map.1 hx
    rfl
  · rw [List.getElem?_map] at hx
    obtain ⟨p, hp, rfl⟩ := Option.map_eq_some_iff.1 hx
    obtain ⟨s, h1, h2⟩ := key q p hp
    refine ⟨_, rfl, h2, fun u hu => ?_, fun r y u hy hu => ?_⟩
    · simp only [List.mem_cons, List.not_mem_nil, or_false] at hu
      rcases hu with rfl | rfl <;> rfl
    · match r with
      | 0 =>
        simp [PV.cells] at hy hu; subst hy hu
        unfold strPV
        have : (⟨p.1.toArray⟩ : ByteArray) = s := by rw [← h1]
        rw [this]; exact .str
      | 1 => simp [PV.cells] at hy hu; subst hy hu; exact .int
      | r + 2 => simp [PV.cells] at hy
end
/-! ### the beginning and the end of a call -/
def g0 (W : World) : Ghost := { B := W.heap.size, K := fun _ => False, S := fun _ _ => False, io := [], lam := [], tb := [] }
theorem inv0 {W : World} {gl : List (Nat × PV)} (h : ∀ n p, (n, p) ∈ gl → RP W.heap.size (fun _ _ => False) W p (.pointer (some ⟨n, 0, none⟩))) : Inv (g0 W) ⟨gl, [], []⟩ [] W := by
  refine ⟨rfl, rfl, rfl, h, List.nodup_nil, fun b hb => (by simp [g0, Ghost.owned] at hb), fun b hb => (by cases hb), Nat.le_refl _, fun b o hS => (by cases hS), fun o ob b ho => (by simp at ho), fun i cs b hL => (by simp at hL), fun k t tb ht => (by simp at ht)⟩
theorem below_of {W W' : World} {σ σ' : Store} {g' : Ghost} (h : Ext (g0 W) σ W g' σ' W') : Below W.heap.size W W' :=
  ⟨h.os, h.tape, h.output, h.size, fun k hk => h.le.keeps.blk k hk⟩

section
variable {H : Type} {enc' : TypeId × Value → H} {P : Program}
theorem post_of_below {f : Func} {s : ChangeSpec} {apart fresh handsOn again : Bool} {W W' : World} {args : Array Value} {v : Value} {ds gs : List (DataW H)} {before pa pv : List MemPlace}
    (hW : DataW.Whole enc' P f.params.toList s.vars apart W args.toList ds gs before)
    (hres : ∀ (b : Nat) (sp : Nat → Bool) (hd : Bool), DataW.TrodAll enc' P W' b sp hd f.resultTypes.toList (v.resultList f.resultTypes.size) (s.fn H (ds ++ gs)).results [])
    (hargs : ∀ sp : Nat → Bool, (∀ p ∈ before, sp p.block = true) → DataW.TrodAll enc' P W' 0 sp true f.params.toList args.toList (s.fn H (ds ++ gs)).args pa)
    (hvars : ∀ sp : Nat → Bool, (∀ p ∈ before, sp p.block = true) → DataW.TrodVars enc' P W' sp s.vars (s.fn H (ds ++ gs)).vars pv)
    (hps : before = pa ++ pv) (hb : Below W.heap.size W W')
    (hok : ∀ (j : Nat) (t : TypeId) (r : Value), f.resultTypes[j]? = some t → (v.resultList f.resultTypes.size)[j]? = some r → Value.okWide P W' .any 0 t r) :
    s.post enc' P f apart fresh handsOn again W args v W' := by
  have hold : ∀ p ∈ before, (fun b => decide (b < W.heap.size)) p.block = true := fun p hp => by simpa using hW.lt p hp
  refine ⟨ds, gs, before, [], pa, pv, hW, hres _ _ _, hargs _ hold, hvars _ hold, hb.frame _, fun _ => ?_⟩
  have hlt := hW.lt
  obtain ⟨_, _, _, _, _, hz, hn⟩ := hW
  refine ⟨hok, _, _, ([] ++ pa) ++ pv, ⟨[] ++ pa, pv, trodAll_append (hargs _ (fun _ _ => rfl)) (hres _ _ _), hvars _ (fun _ _ => rfl), rfl, ?_, ?_⟩, ?_⟩
  · intro b off hp
    have hp' : MemPlace.cell b off ∈ before := by rw [hps]; simpa using hp
    have hl := hlt _ hp'
    rw [hb.frozen (p := ⟨b, off, none⟩) hl]
    exact hz b off hp'
  · intro ha
    have := hn ha
    rw [hps] at this
    simpa using this
  · intro p hp _
    rw [hps]
    simpa using hp
end
end Go.Aw

/- The laid tables of the packages node and prim. No program is named. -/
namespace Go.Aw
open Go
def primNames : List (List UInt8 × Int) := primL.map fun p => (p.1.data.toList, p.2)
theorem primV_of : (primNames.map fun p => PV.agg [strPV p.1, .int .i64 p.2]) = primL.map encPrim := by
  unfold primNames
  rw [List.map_map]
  refine List.map_congr_left fun p _ => ?_
  simp [strPV, encPrim]
/-- A variable of one cell. -/
theorem rp_var {B : Nat} {S : Nat → Nat → Prop} {w : World} {n : Nat} {p : PV} {v : Value} (hn : n < B) (hc : w.cell? ⟨n, 0, none⟩ = some v) (h1 : v.oneCell' = true) (hp : RP B S w p v) : RP B S w (.ptr [p]) (.pointer (some ⟨n, 0, none⟩)) := by
  refine RP.ptr (vs := [v]) rfl (fun i u hu => ?_) (fun i x u hx hu => ?_)
  · match i with
    | 0 => simp at hu; subst hu; exact ⟨.inl hn, by simpa using hc, h1⟩
    | i + 1 => simp at hu
  · match i with
    | 0 => simp at hx hu; subst hx hu; exact hp
    | i + 1 => simp at hx
theorem cell_lt {w : World} {n i : Nat} {v : Value} (h : w.cell? ⟨n, i, none⟩ = some v) : n < w.heap.size := by
  unfold World.cell? at h
  by_cases hlt : n < w.heap.size
  · exact hlt
  · rw [Array.getElem?_eq_none (by show w.heap.size ≤ n; omega)] at h; simp at h
/-- A datum that is handed over. -/
theorem open_agg {v : Value} {k n : Int} {t : ByteArray} {u : Value} (h : v.cells.toList = [.int .i64 k, .int .i64 n, .string t, u]) : v = .agg #[.int .i64 k, .int .i64 n, .string t, u] := by
  cases v with
  | agg cs => simp only [Value.cells] at h; rw [← Array.toArray_toList (xs := cs), h]
  | _ => simp [Value.cells] at h
theorem rp_datum {B : Nat} {S : Nat → Nat → Prop} {w : World} {d : D} {u : Value} (h1 : u.oneCell' = true) (h : RP B S w (.slice (d.kids.map enc)) u) : RP B S w (enc d) (.agg #[.int .i64 d.kind, .int .i64 d.num, .string d.text, u]) := by
  rw [enc_eq]
  refine RP.agg (vs := [.int .i64 d.kind, .int .i64 d.num, .string d.text, u]) rfl (fun v hv => ?_) (fun i x v hx hv => ?_)
  · simp only [List.mem_cons, List.not_mem_nil, or_false] at hv
    rcases hv with rfl | rfl | rfl | rfl <;> first | rfl | exact h1
  · match i with
    | 0 => simp at hx hv; subst hx hv; exact .int
    | 1 => simp at hx hv; subst hx hv; exact .int
    | 2 => simp at hx hv; subst hx hv; exact .str
    | 3 => simp at hx hv; subst hx hv; exact h
    | i + 4 => simp at hx
end Go.Aw

/- The laid table of layer 25 and the laid errors of strconv, from the row's reading to abstract values. No program is named. -/
namespace Go.Aw
open Go Go.ChangeShapes Go.WideShapes Go.ChangeAt Go.WideMaps Go.WideElems Go.RowKit
theorem nodup_inj {α β : Type} {f : α → β} : ∀ {l : List α}, (l.map f).Nodup → ∀ {a b : α}, a ∈ l → b ∈ l → f a = f b → a = b
  | [], _, a, b, ha, _, _ => by simp at ha
  | c :: l, h, a, b, ha, hb, e => by
    rw [List.map_cons, List.nodup_cons] at h
    rcases List.mem_cons.1 ha with rfl | ha1
    · rcases List.mem_cons.1 hb with rfl | hb1
      · rfl
      · exact (h.1 (List.mem_map.2 ⟨b, hb1, e.symm⟩)).elim
    · rcases List.mem_cons.1 hb with rfl | hb1
      · exact (h.1 (List.mem_map.2 ⟨a, ha1, e⟩)).elim
      · exact nodup_inj h.2 ha1 hb1 e
theorem find_perm {β : Type} {l1 l2 : List (ByteArray × β)} (h : l1.Perm l2) (hn : (l2.map (·.1)).Nodup) (x : ByteArray) : (l1.find? fun p => decide (p.1 = x)) = l2.find? fun p => decide (p.1 = x) := by
  cases h2 : l2.find? fun p => decide (p.1 = x) with
  | none =>
    rw [List.find?_eq_none] at h2 ⊢
    exact fun p hp => h2 p (h.mem_iff.1 hp)
  | some y =>
    have hy := List.find?_some h2
    have hym := List.mem_of_find?_eq_some h2
    cases h1 : l1.find? fun p => decide (p.1 = x) with
    | none =>
      rw [List.find?_eq_none] at h1
      exact absurd hy (h1 y (h.mem_iff.2 hym))
    | some z =>
      have hz := List.find?_some h1
      have hzm := h.mem_iff.1 (List.mem_of_find?_eq_some h1)
      simp only [decide_eq_true_eq] at hy hz
      rw [nodup_inj hn hzm hym (hz.trans hy.symm)]
def shapesB : List (List UInt8 × (Nat × Nat)) := shapeL.map fun p => (p.1.data.toList, p.2)
def shB (p : List UInt8 × (Nat × Nat)) : ByteArray × (Nat × Nat) := (⟨p.1.toArray⟩, p.2)
theorem shapesB_back : shapesB.map shB = shapeL := by
  unfold shapesB
  rw [List.map_map]
  conv => rhs; rw [← List.map_id shapeL]
  refine List.map_congr_left fun p _ => ?_
  simp [shB]
theorem shapeL_nodup : (shapeL.map (·.1)).Nodup := by decide +kernel
def shO (l : List (List UInt8 × (Nat × Nat))) (h : l.Perm shapesB) : ShO where
  l := l.map shB
  find := fun x => by
    rw [find_perm (h.map shB) (by rw [shapesB_back]; exact shapeL_nodup), shapesB_back]
    rfl

def litSh {H : Type} : DataW H → Nat × Nat
  | .agg [.lit (.int _ a), .lit (.int _ b)] => (a.toNat, b.toNat)
  | _ => (0, 0)
def datSh {H : Type} (p : List UInt8 × (Nat × Nat)) : Lit × DataW H := (.string p.1, .agg [.lit (.int .i64 (p.2.1 : Nat)), .lit (.int .i64 (p.2.2 : Nat))])
section
variable {H : Type} {enc' : TypeId × Value → H} {P : Program} {w : World} {base : Nat} {sp : Nat → Bool} {held : Bool} {S : Nat → Nat → Prop} {t k e : TypeId} {fuel : Nat} {cs : List Value} {ps : List MemPlace}
theorem open_two {f0 f1 : Field} (he : P.underlying e = some (.struct #[f0, f1])) (hf0 : P.underlying f0.type = some (.int .i64)) (hf1 : P.underlying f1.type = some (.int .i64)) (o0 : f0.offset = 0) (o1 : f1.offset = 1)
    (c0 : P.cellsOf f0.type = 1) (c1 : P.cellsOf f1.type = 1) (ce : P.cellsOf e = 2) {x : DataW H × List MemPlace} (h : DataW.trod enc' P w base sp held fuel e cs = some x) : ∃ a b : Int, cs = [.int .i64 a, .int .i64 b] ∧ x.1 = .agg [.lit (.int .i64 a), .lit (.int .i64 b)] := by
  obtain ⟨xs, n, rfl, hxe, hl, hlen, hf⟩ := DataW.trod_struct he h
  have hxl : xs.length = 2 := by simpa using hlen
  have g0 := hf 0 f0 rfl
  have g1 := hf 1 f1 rfl
  rw [o0, c0] at g0
  rw [o1, c1] at g1
  have s0 : xs[0]? = some xs[0] := by simp
  have s1 : xs[1]? = some xs[1] := by simp
  rw [s0] at g0
  rw [s1] at g1
  obtain ⟨a, e0, x0, _⟩ := DataW.trod_int hf0 g0
  obtain ⟨b, e1, x1, _⟩ := DataW.trod_int hf1 g1
  have a0 := one_of e0
  have a1 := one_of e1
  refine ⟨a, b, ?_, ?_⟩
  · rw [ce] at hl
    match cs, hl, a0, a1 with
    | [u, v], _, a0, a1 =>
      simp only [List.getElem?_cons_zero, List.getElem?_cons_succ, Option.some.injEq] at a0 a1
      rw [a0, a1]
  · have hxs : xs = [xs[0], xs[1]] := by
      refine List.ext_getElem (by simp [hxl]) (fun j h1 h2 => ?_)
      match j with
      | 0 => rfl
      | 1 => rfl
      | j + 2 => simp only [List.length_cons, List.length_nil] at h2; omega
    rw [hxe, hxs]
    simp [x0, x1]
theorem open_shapes {f0 f1 : Field} (ht : P.underlying t = some (.map k e)) (hks : P.underlying k = some .string) (he : P.underlying e = some (.struct #[f0, f1])) (hf0 : P.underlying f0.type = some (.int .i64)) (hf1 : P.underlying f1.type = some (.int .i64)) (o0 : f0.offset = 0) (o1 : f1.offset = 1)
    (c0 : P.cellsOf f0.type = 1) (c1 : P.cellsOf f1.type = 1) (ce : P.cellsOf e = 2) {names : List (List UInt8 × (Nat × Nat))}
    (h : DataW.trod enc' P w base sp held fuel t cs = some (.map (names.map datSh), ps)) (hp : names.Perm shapesB) :
    ∃ (b : Nat) (s : ShO), cs = [.map (some b)] ∧ RP w.heap.size S w (.map (shK s) (shV s)) (.map (some b)) := by
  rcases WideElems.open_map ht h with ⟨_, hx⟩ | ⟨b, es, clock, n, rfl, rfl, hb, _, F, hx⟩
  · cases hx
  simp only [Prod.mk.injEq, DataW.map.injEq] at hx
  have hperm := foldr_insert_perm (es.toList.map (rg P k (elemAt enc' P w base sp held n e)))
  rw [← hx.1] at hperm
  have hl : ((es.toList.map (rg P k (elemAt enc' P w base sp held n e))).map fun y => (litStr y.1, litSh y.2)).Perm shapesB := by
    have h2 := (hperm.map fun y : Lit × DataW H => (litStr y.1, litSh y.2)).symm
    have e1 : ((names.map (datSh (H := H))).map fun y : Lit × DataW H => (litStr y.1, litSh y.2)) = names := by
      rw [List.map_map]
      conv => rhs; rw [← List.map_id names]
      refine List.map_congr_left fun p _ => ?_
      simp [datSh, litStr, litSh]
    rw [e1] at h2
    exact h2.trans hp
  refine ⟨b, shO _ hl, rfl, ?_⟩
  have hent : ∀ x, x ∈ es.toList → ∃ (s : ByteArray) (c d : Nat), x.key = .string s ∧ x.val = .agg #[.int .i64 c, .int .i64 d] ∧ shB (litStr (rg P k (elemAt enc' P w base sp held n e) x).1, litSh (rg P k (elemAt enc' P w base sp held n e) x).2) = (s, (c, d)) := by
    intro x hxm
    obtain ⟨y, hy⟩ := F.reads x hxm
    have hrg : rg P k (elemAt enc' P w base sp held n e) x = y := rg_of hy
    have hmem : y ∈ names.map (datSh (H := H)) := by
      have : y ∈ es.toList.map (rg P k (elemAt enc' P w base sp held n e)) := List.mem_map.2 ⟨x, hxm, hrg⟩
      exact hperm.mem_iff.2 this
    obtain ⟨s, _, hs⟩ := List.mem_map.1 hmem
    subst hs
    have hkey := rd_key hy
    obtain ⟨z, hz, hz2⟩ := rd_val hy
    rw [keyOf_string hks] at hkey
    have hk2 : ∃ s' : ByteArray, x.key = .string s' ∧ s'.data.toList = s.1 := by
      unfold mapKey at hkey
      rw [hks] at hkey
      split at hkey <;> simp_all [datSh]
    obtain ⟨s', h1, h2⟩ := hk2
    unfold elemAt at hz
    split at hz
    · rename_i hfm
      obtain ⟨c, d, hcs, hz3⟩ := open_two he hf0 hf1 o0 o1 c0 c1 ce hz
      rw [hz3] at hz2
      simp only [datSh, DataW.agg.injEq, List.cons.injEq, DataW.lit.injEq, Lit.int.injEq, true_and, and_true] at hz2
      refine ⟨s', s.2.1, s.2.2, h1, ?_, ?_⟩
      · rw [← hz2.1, ← hz2.2] at hcs
        cases hv : x.val with
        | agg cs => rw [hv] at hcs; simp only [Value.cells] at hcs; rw [← Array.toArray_toList (xs := cs), hcs]
        | _ => rw [hv] at hcs; simp [Value.cells] at hcs
      · rw [hrg]
        simp [datSh, litStr, litSh, shB, ← h2]
    · cases hz
  have hblt : b < w.heap.size := by
    by_cases hlt : b < w.heap.size
    · exact hlt
    · rw [Array.getElem?_eq_none (by omega)] at hb; cases hb
  refine RP.map (es := es.toList) (clock := clock) hblt (by rw [hb]) (by simp [shK, shO]) (by simp [shV, shO]) (fun i x en hx hen => ?_) (fun i x en hx hen => ?_)
  · obtain ⟨s, c, d, h1, _, h3⟩ := hent en (List.mem_of_getElem? hen)
    simp only [shK, shO, List.map_map, List.getElem?_map, hen, Option.map_some, Option.some.injEq] at hx
    subst hx
    simp only [Function.comp]
    rw [h3, h1]; exact .str
  · obtain ⟨s, c, d, _, h2, h3⟩ := hent en (List.mem_of_getElem? hen)
    simp only [shV, shO, List.map_map, List.getElem?_map, hen, Option.map_some, Option.some.injEq] at hx
    subst hx
    simp only [Function.comp]
    rw [h3, h2]
    refine RP.agg (vs := [.int .i64 c, .int .i64 d]) rfl (fun v hv => ?_) (fun i x v hx hv => ?_)
    · simp only [List.mem_cons, List.not_mem_nil, or_false] at hv
      rcases hv with rfl | rfl <;> rfl
    · match i with
      | 0 => simp at hx hv; subst hx hv; exact .int
      | 1 => simp at hx hv; subst hx hv; exact .int
      | i + 2 => simp at hx
end
/-- A variable that an error lies in. -/
theorem rp_error {B : Nat} {S : Nat → Nat → Prop} {w : World} {n : Nat} {tp : TypeId} {a : Addr} {s : ByteArray} (hn : n < B) (hc : w.cell? ⟨n, 0, none⟩ = some (.iface tp (.pointer (some a)))) (ha : w.cell? a = some (.string s)) : RP B S w (.ptr [.iface tp (.ptr [])]) (.pointer (some ⟨n, 0, none⟩)) := by
  have hspot : a.spot = none := by
    unfold World.cell? at ha
    cases hs : a.spot with
    | none => rfl
    | some s =>
      rw [hs] at ha
      split at ha <;> simp at ha
  obtain ⟨b, off, sp⟩ := a
  simp only at hspot
  subst hspot
  exact rp_var hn hc rfl (.iface (RP.ptr (vs := []) rfl (fun i v hv => by simp at hv) (fun i x v hx hv => by simp at hx)))
end Go.Aw
