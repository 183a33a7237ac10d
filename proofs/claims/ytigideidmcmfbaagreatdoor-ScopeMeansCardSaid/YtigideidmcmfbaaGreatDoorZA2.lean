/- Part of the proof that the statement holds for every input that its row lets in: an own logic of abstract values over the given model, and laws of data and programs; no program is named in it. -/
import Derived.Test.YtigideidmcmfbaaGreatDoorZA1
import Derived.MapKept
import Derived.Laws.StructEq
import Derived.ArgAppend
import Derived.Lib.Bytealg
set_option linter.unusedSimpArgs false
set_option linter.unusedVariables false
namespace Go.Aw
open Go
section
variable {P : Program} {ty : TyT} {g0 g : Ghost} {σ0 : Store} {w0 w : World} {N : Nat} {s : St} {a : Act} {o : Oper} {x : AV} {next : St → Prop} {tk : List Tok} {L : List (List AV)} {σ : Store}
theorem Za {p q : Operand} {t : TypeId} (ho : o.op = .call { callee := .builtin .append, args := #[p, q], argTypes := #[t, t] }) {v' : Value} {w' : World} (h : (Builtin.append_ #[t, t] o.type #[a.eval p, a.eval q]).run P w = .ok v' w') :
  (execOp a.eval o).run P w = .ok (.value v') w' := by
 simp only [execOp, ho, resolve, Sem.run_bind, Sem.run_pure, Result.andThen_ok, invoke, builtin]
 simp [h]

theorem ylj (hty : TyOk P ty) {p q : Operand} {t e : TypeId} {ti te : TyI} {xs ys : List PV} {k : Nat} {tok : Tok} (ho : o.op = .call { callee := .builtin .append, args := #[p, q], argTypes := #[t, t] }) (hti : ty t = some ti) (hk : ti.kind = .slice e) (hte : ty e = some te)
  (hp : ev s p = .acc xs k) (hq : (ev s q).elems = some ys) (hkt : s.σ.toks[k]? = some tok) (hn : tok.n = xs.length) (he : tok.e = e) (hs : tok.sz = te.size) (hys : y4 te.size ys = true) (hb0 : 0 < te.bytes)
  (hbytes : (xs.length + ys.length) * te.bytes ≤ 140737488355328) (hd : yJ N o.dst = true) (hnx : next (({ s with σ := s.σ.tok k (xs.length + ys.length) } : St).put o.dst (.acc (xs ++ ys) k))) : AOp P σ0 N o next s := by
 rintro g0 w0 a w nx Q ⟨g, r⟩ hnext
 have hv := r.ev p
 rw [hp] at hv
 obtain ⟨v', w', g', h1, h2, h3, h4, h5, h6, h7, h8, h9, h10, h11⟩ := yeN (P := P) hty r.2.1 hti hk hte hkt hn he hs hv ((r.ev q).elems hq) hys hb0 hbytes o.type
 unfold opW
 rw [Za ho h1]
 have r' := r.later (σ' := s.σ.tok k (xs.length + ys.length)) (L' := s.L) h3 (by rw [h4]; exact fun _ _ h => h) h2 h5 rfl h6 h7 h8 h9 h10
 exact hnext _ _ _ hnx ⟨g', r'.put h11 hd⟩

theorem Inv.adopt (h : Inv g σ L w) (t : Tok) : Inv { g with tb := g.tb ++ [none] } { σ with toks := σ.toks ++ [t] } L w ∧ Le g σ.toks w { g with tb := g.tb ++ [none] } (σ.toks ++ [t]) w := by
 have le : Le g σ.toks w { g with tb := g.tb ++ [none] } (σ.toks ++ [t]) w := by
  refine ⟨rfl, Keeps.refl _ _ _, fun _ _ h => h, fun k t' ht => ⟨t', yL ht, rfl, rfl, Nat.le_refl _, fun _ => ?_⟩⟩
  have hlt : k < g.tb.length := by rw [h.ltb]; exact (List.getElem?_eq_some_iff.1 ht).1
  exact List.getElem?_append_left hlt
 have hown : ({ g with tb := g.tb ++ [none] } : Ghost).owned = g.owned := by simp [Ghost.owned]
 refine ⟨⟨h.lio, h.llam, by simp [h.ltb], h.glob, by rw [hown]; exact h.nodup, by rw [hown]; exact h.low, h.kept, h.base, h.cells, fun o ob c ho hio => (h.objs o ob c ho hio).mono le (fun _ _ h => h) rfl, fun i cs c hL hl => (h.priv i cs c hL hl).mono le (fun _ _ h => h) rfl, fun k t' tb ht htb => ?_⟩, le⟩
 rcases getElem?_snoc htb with hb | ⟨_, hb⟩
 ·have hlt : k < σ.toks.length := by rw [← h.ltb]; exact (List.getElem?_eq_some_iff.1 hb).1
  simp only [List.getElem?_append_left hlt] at ht
  exact h.toks k t' tb ht hb
 ·cases hb

def AV.fullElems : AV → Option (List PV)
 | .pv .nils => some []
 | .full xs => some xs
 | _ => none

theorem RA.adopt {y : AV} {v : Value} {xs : List PV} (hy : RA g σ.toks w y v) (hf : y.fullElems = some xs) (h : Inv g σ L w) (t : Tok) (hn : t.n = xs.length) (hsz : ∀ x, x ∈ xs → x.cells.length = t.sz) :
  RA { g with tb := g.tb ++ [none] } (σ.toks ++ [t]) w (.acc xs σ.toks.length) v := by
 have hv : RP g.B g.S w (.slice xs) v ∧ ∃ a, v = .slice a xs.length xs.length := by
  cases hy with
  | pv h =>
   rename_i p
   cases p <;> simp [AV.fullElems] at hf
   subst hf
   rw [h.nils_inv]
   exact ⟨.empty, none, rfl⟩
  | full h =>
   simp [AV.fullElems] at hf
   subst hf
   obtain ⟨a', c, he⟩ := h.slice_len
   cases he
   exact ⟨h, _, rfl⟩
  | _ => simp [AV.fullElems] at hf
 exact .acc hv.1 (by simp) (by omega) hsz (fun _ => .inr hv.2)

theorem yhz (hty : TyOk P ty) {p q : Operand} {t e : TypeId} {ti te : TyI} {xs ys : List PV} (ho : o.op = .call { callee := .builtin .append, args := #[p, q], argTypes := #[t, t] }) (hti : ty t = some ti) (hk : ti.kind = .slice e) (hte : ty e = some te)
  (hp : (ev s p).fullElems = some xs) (hq : (ev s q).elems = some ys) (hxs : y4 te.size xs = true) (hys : y4 te.size ys = true) (hb0 : 0 < te.bytes)
  (hbytes : (xs.length + ys.length) * te.bytes ≤ 140737488355328) (hd : yJ N o.dst = true)
  (hnx : next (({ s with σ := { s.σ with toks := s.σ.toks ++ [⟨xs.length + ys.length, e, te.size⟩] } } : St).put o.dst (.acc (xs ++ ys) s.σ.toks.length))) : AOp P σ0 N o next s := by
 rintro g0 w0 a w nx Q ⟨g, r⟩ hnext
 have hxsz : ∀ x, x ∈ xs → x.cells.length = te.size := by simpa [y4] using hxs
 obtain ⟨i1, le1⟩ := r.2.1.adopt ⟨xs.length, e, te.size⟩
 have hv := (r.ev p).adopt hp r.2.1 ⟨xs.length, e, te.size⟩ rfl hxsz
 have hu := (r.ev q).elems hq
 obtain ⟨v', w', g', h1, h2, h3, h4, h5, h6, h7, h8, h9, h10, h11⟩ := yeN (P := P) (σ := { s.σ with toks := s.σ.toks ++ [⟨xs.length, e, te.size⟩] }) hty i1 hti hk hte (k := s.σ.toks.length) (tok := ⟨xs.length, e, te.size⟩) (by simp) rfl rfl rfl hv hu hys hb0 hbytes o.type
 have hst : ({ s.σ with toks := s.σ.toks ++ [⟨xs.length, e, te.size⟩] } : Store).tok s.σ.toks.length (xs.length + ys.length) = { s.σ with toks := s.σ.toks ++ [⟨xs.length + ys.length, e, te.size⟩] } := by
  simp only [Store.tok]
  congr 1
  apply List.ext_getElem?
  intro j
  rw [getElem?_modify']
  split
  ·subst_vars; simp
  ·rcases Nat.lt_or_ge j s.σ.toks.length with hj | hj
   ·rw [List.getElem?_append_left hj, List.getElem?_append_left hj]
   ·rw [List.getElem?_append_right hj, List.getElem?_append_right hj, show j - s.σ.toks.length = (j - s.σ.toks.length - 1) + 1 by omega]; simp
 rw [hst] at h2 h3 h11
 unfold opW
 rw [Za ho h1]
 have r' := r.later (σ' := { s.σ with toks := s.σ.toks ++ [⟨xs.length + ys.length, e, te.size⟩] }) (L' := s.L) (le1.trans h3) (by rw [h4]; exact fun _ _ h => h) h2 h5 rfl h6 h7 h8 h9 h10
 exact hnext _ _ _ hnx ⟨g', r'.put h11 hd⟩


def Callable (P : Program) (f : FuncId) : Prop := ∃ fn, P.funcs[f]? = some fn ∧ fn.body.isNone = false ∧ (fn.name == "runtime.NumGoroutine") = false

theorem RA.toCallee {y : AV} {v : Value} (h : RA g tk w y v) (hn : y.noL = true) (lam : List Nat) (K : Nat → Prop) : RA { g with lam := lam, K := K } tk w y v := by
 induction h with
 | pv h => exact .pv h
 | full h => exact .full h
 | acc h ht hle hsz ho => exact .acc h ht hle hsz ho
 | ptr h => exact .ptr h
 | lptr h => simp [AV.noL] at hn
 | map h => exact .map h
 | func hl hr ih =>
  simp only [AV.noL, AV.noLs_iff] at hn
  exact .func hl (fun i x v hx hv => ih i x v hx hv (hn x (List.mem_of_getElem? hx)))
 | agg hl h1 hr ih =>
  simp only [AV.noL, AV.noLs_iff] at hn
  exact .agg hl h1 (fun i x v hx hv => ih i x v hx hv (hn x (List.mem_of_getElem? hx)))
 | tuple hl hr ih =>
  simp only [AV.noL, AV.noLs_iff] at hn
  exact .tuple hl (fun i x v hx hv => ih i x v hx hv (hn x (List.mem_of_getElem? hx)))
 | scr h hn' h0 => exact .scr h hn' h0
 | scrnil => exact .scrnil
 | sl h hn' => exact .sl h hn'
 | ifc _ ih => exact .ifc (ih hn)
 | vs hl h1 hc _ hf hk ih =>
  simp only [AV.noL, AV.noLs_iff] at hn
  exact .vs hl h1 hc (fun i x v hx hv => ih i x v hx hv (hn x (List.mem_of_getElem? hx))) hf hk
 | vp hl hc _ ih =>
  simp only [AV.noL, AV.noLs_iff] at hn
  exact .vp hl hc (fun i x v hx hv => ih i x v hx hv (hn x (List.mem_of_getElem? hx)))
 | junk => exact .junk

theorem RA.noLam {y : AV} {v : Value} (h : RA { g with lam := [] } tk w y v) (lam : List Nat) (K : Nat → Prop) : RA { g with lam := lam, K := K } tk w y v := by
 generalize hg : ({ g with lam := [] } : Ghost) = g' at h
 induction h with
 | pv h => subst hg; exact .pv h
 | full h => subst hg; exact .full h
 | acc h ht hle hsz ho => subst hg; exact .acc h ht hle hsz ho
 | ptr h => subst hg; exact .ptr h
 | lptr h => subst hg; simp at h
 | map h => subst hg; exact .map h
 | func hl hr ih => exact .func hl ih
 | agg hl h1 hr ih => exact .agg hl h1 ih
 | tuple hl hr ih => exact .tuple hl ih
 | scr h hn h0 => subst hg; exact .scr h hn h0
 | scrnil => exact .scrnil
 | sl h hn => subst hg; exact .sl h hn
 | ifc _ ih => exact .ifc ih
 | vs hl h1 hc _ hf hk ih => subst hg; exact .vs hl h1 hc ih hf hk
 | vp hl hc _ ih => subst hg; exact .vp hl hc ih
 | junk => exact .junk

theorem RLoop.toCallee {b : Nat} {st : LoopState} {pe : Option Code} {T : List (Nat × AV)} {N : Nat} {ps : Array Tmp} {assign body : Code} (h : RLoop g tk w b st pe T N ps assign body) (hn : ∀ x, x ∈ T.map (·.2) → x.noL = true) (lam : List Nat) (K : Nat → Prop) :
  RLoop { g with lam := lam, K := K } tk w b st pe T N ps assign body := by
 obtain ⟨fn, tmps, D, k1, k2, k3⟩ := h
 refine ⟨fn, tmps, D, k1, k2, fun t => ?_⟩
 rcases yei (T := T) (t := t) with e | ⟨p, hp, e⟩
 ·rw [e]; exact .junk
 ·exact (k3 t).toCallee (by rw [e]; exact hn _ (List.mem_map.2 ⟨p, hp, rfl⟩)) _ _

theorem Inv.toCallee (h : Inv g σ L w) : Inv { g with lam := [], K := fun b => g.K b ∨ b ∈ g.lam } σ [] w := by
 have ap := h.apart
 have hsub : ∀ c, c ∈ ({ g with lam := [], K := fun b => g.K b ∨ b ∈ g.lam } : Ghost).owned → c ∈ g.owned := by
  intro c hc
  simp only [Ghost.owned, List.append_nil, List.mem_append] at hc ⊢
  rcases hc with hc | hc
  ·exact .inl (.inl hc)
  ·exact .inr hc
 have hn := h.nodup
 simp only [Ghost.owned] at hn
 rw [List.append_assoc] at hn
 have h1 := List.nodup_append.1 hn
 have h2 := List.nodup_append.1 h1.2.1
 have ho : ({ g with lam := [], K := fun b => g.K b ∨ b ∈ g.lam } : Ghost).owned = g.io ++ g.tb.filterMap fun o => o.map (·.b) := by simp [Ghost.owned]
 refine ⟨h.lio, rfl, h.ltb, h.glob, ?_, fun c hc => ?_, fun c hK => ?_, h.base, fun c o hS => ?_, fun o ob c ho hio => ?_, fun i cs c hL => by simp at hL, h.toks⟩
 ·rw [ho]
  exact List.nodup_append.2 ⟨h1.1, h2.2.1, fun c hc d hd => h1.2.2 c hc d (List.mem_append_right _ hd)⟩
 ·have := h.low c (hsub c hc)
  refine ⟨this.1, this.2.1, ?_⟩
  rintro (hK | hl)
  ·exact this.2.2 hK
  ·rw [ho] at hc
   rcases List.mem_append.1 hc with hc | hc
   ·exact ap.2.1 c hc hl
   ·exact h2.2.2 c hl c hc rfl
 ·rcases hK with hK | hl
  ·exact h.kept c hK
  ·have hlo := h.low c (by simp only [Ghost.owned, List.mem_append]; exact .inl (.inr hl))
   exact ⟨hlo.2.1, fun o hS => (h.cells c o hS).2.2.2 hl⟩
 ·have := h.cells c o hS
  exact ⟨this.1, this.2.1, this.2.2.1, by simp⟩
 ·have := h.objs o ob c ho hio
  cases ob with
  | box cs =>
   obtain ⟨hnl, vs, e, k1, k2, k3, k4⟩ := this
   exact ⟨hnl, vs, e, k1, k2, k3, fun i x v hx hv => (k4 i x v hx hv).toCallee (hnl x (List.mem_of_getElem? hx)) _ _⟩
  | map ks vs => exact this
  | row e sz cap xs => exact this
  | arr cs =>
   obtain ⟨hnl, vs, rest, e, k1, k2, k3, k4⟩ := this
   exact ⟨hnl, vs, rest, e, k1, k2, k3, fun i x v hx hv => (k4 i x v hx hv).toCallee (hnl x (List.mem_of_getElem? hx)) _ _⟩
  | loop l st pe T N ps assign body => exact ⟨this.1, this.2.toCallee this.1.2.1 _ _⟩

theorem Inv.fromCallee {g' : Ghost} {σ' : Store} {w' : World} (h : Inv g σ L w) (k : Inv g' σ' [] w') (e : Ext { g with lam := [], K := fun b => g.K b ∨ b ∈ g.lam } σ w g' σ' w') :
  Inv { g' with lam := g.lam, K := g.K } σ' L w' ∧ Le g σ.toks w { g' with lam := g.lam, K := g.K } σ'.toks w' := by
 have le : Le g σ.toks w { g' with lam := g.lam, K := g.K } σ'.toks w' := ⟨e.le.B, e.le.keeps, e.le.io, e.le.tok⟩
 have hl' : g'.lam = [] := List.eq_nil_of_length_eq_zero (by rw [k.llam]; rfl)
 have hK' : ∀ b, (g.K b ∨ b ∈ g.lam) → g'.K b := e.K
 have ap := h.apart
 have ho : ({ g' with lam := g.lam, K := g.K } : Ghost).owned = g'.io ++ g.lam ++ g'.tb.filterMap fun o => o.map (·.b) := rfl
 have ho' : g'.owned = g'.io ++ g'.tb.filterMap fun o => o.map (·.b) := by simp [Ghost.owned, hl']
 have hn' := k.nodup
 rw [ho'] at hn'
 have hn1 := List.nodup_append.1 hn'
 have hlow' : ∀ c, c ∈ g'.io ++ g'.tb.filterMap (fun o => o.map (·.b)) → c ∉ g.lam := by
  intro c hc hl
  have := (k.low c (by rw [ho']; exact hc)).2.2
  exact this (hK' _ (.inr hl))
 refine ⟨⟨k.lio, h.llam, k.ltb, k.glob, ?_, fun c hc => ?_, fun c hK => ?_, k.base, fun c o hS => ?_, fun o ob c hob hio => ?_, fun i cs c hL hl => ?_, k.toks⟩, le⟩
 ·rw [ho]
  refine List.nodup_append.2 ⟨List.nodup_append.2 ⟨hn1.1, ap.1.2, fun c hc d hd => ?_⟩, hn1.2.1, fun c hc d hd => ?_⟩
  ·rintro rfl; exact hlow' c (List.mem_append_left _ hc) hd
  ·rcases List.mem_append.1 hc with hc | hc
   ·exact hn1.2.2 c hc d hd
   ·rintro rfl; exact hlow' c (List.mem_append_right _ hd) hc
 ·rw [ho] at hc
  rcases List.mem_append.1 hc with hc | hc
  ·rcases List.mem_append.1 hc with hc | hc
   ·have := k.low c (by rw [ho']; exact List.mem_append_left _ hc)
    refine ⟨this.1, this.2.1, fun hK => this.2.2 (hK' _ (.inl hK))⟩
   ·have := h.low c (by simp only [Ghost.owned, List.mem_append]; exact .inl (.inr hc))
    refine ⟨by rw [show g'.B = g.B from e.le.B]; exact this.1, Nat.lt_of_lt_of_le this.2.1 e.size, this.2.2⟩
  ·have := k.low c (by rw [ho']; exact List.mem_append_right _ hc)
   refine ⟨this.1, this.2.1, fun hK => this.2.2 (hK' _ (.inl hK))⟩
 ·exact k.kept c (hK' _ (.inl hK))
 ·have := k.cells c o hS
  refine ⟨this.1, this.2.1, this.2.2.1, fun hl => ?_⟩
  exact (k.kept c (hK' _ (.inr hl))).2 o hS
 ·have := k.objs o ob c hob hio
  have hg : g' = { g' with lam := [] } := by cases g'; simp_all
  cases ob with
  | box cs =>
   obtain ⟨hnl, vs, e', k1, k2, k3, k4⟩ := this
   refine ⟨hnl, vs, e', k1, k2, k3, fun i x v hx hv => ?_⟩
   have := k4 i x v hx hv
   rw [hg] at this
   exact this.noLam _ _
  | map ks vs => exact this
  | row e sz cap xs => exact this
  | arr cs =>
   obtain ⟨hnl, vs, rest, e', k1, k2, k3, k4⟩ := this
   refine ⟨hnl, vs, rest, e', k1, k2, k3, fun i x v hx hv => ?_⟩
   have := k4 i x v hx hv
   rw [hg] at this
   exact this.noLam _ _
  | loop l st pe T N ps assign body =>
   obtain ⟨h0, fn, tmps, D, k1, k2, k3⟩ := this
   refine ⟨h0, fn, tmps, D, k1, k2, fun t => ?_⟩
   have := k3 t
   rw [hg] at this
   exact this.noLam _ _
 ·exact (h.priv i cs c hL hl).mono le (fun _ _ h => h) (e.blk c (.inr (List.mem_of_getElem? hl)))

theorem ycE {c : Call} {fo : Operand} {f : FuncId} {caps : List AV} (ho : o.op = .call c) (hc : c.callee = .value fo) (hf : ev s fo = .func (.func f) caps) (hca : Callable P f) (hnl : AV.noLs (c.args.toList.map (ev s) ++ caps) = true) (hd : yJ N o.dst = true)
  (h : ACalls P f (c.args.toList.map (ev s) ++ caps) s.σ fun r σ' => next (({ s with σ := σ' } : St).put o.dst r)) : AOp P σ0 N o next s := by
 rintro g0 w0 a w nx Q ⟨g, r⟩ hnext
 have hfv := r.ev fo
 rw [hf] at hfv
 generalize hv : a.eval fo = fv at hfv
 cases hfv with
 | func hl hr =>
  rename_i vs
  obtain ⟨fn, h1, h2, h3⟩ := hca
  have hrun : (execOp a.eval o).run P w = .ok (.enter f (c.args.map a.eval ++ vs.toArray)) w := by
   simp only [execOp, ho, resolve, hc, hv, Deferred.ofValue, Sem.run_bind, Sem.run_pure, Result.andThen_ok, invoke, callFunc, run_program, h1, h2, h3]
   simp
  unfold opW
  rw [hrun]
  show Calls P f (c.args.map a.eval ++ vs.toArray) w _
  have hargs : c.args.map a.eval ++ vs.toArray = (c.args.toList.map a.eval ++ vs).toArray := Array.ext' (by simp)
  rw [hargs]
  have hnl' := AV.noLs_iff.1 hnl
  have hall : ∀ (i : Nat) x v, (c.args.toList.map (ev s) ++ caps)[i]? = some x → (c.args.toList.map a.eval ++ vs)[i]? = some v → RA g s.σ.toks w x v := by
   intro i x v hx hv
   by_cases hi : i < c.args.toList.length
   ·rw [List.getElem?_append_left (by simpa using hi)] at hx hv
    exact r.evs c.args.toList i x v hx hv
   ·rw [List.getElem?_append_right (by simpa using hi)] at hx hv
    simp only [List.length_map] at hx hv
    exact hr _ x v hx hv
  refine (h _ w (c.args.toList.map a.eval ++ vs) r.2.1.toCallee (by simp [hl]) (fun i x v hx hv => (hall i x v hx hv).toCallee (hnl' x (List.mem_of_getElem? hx)) _ _)).mono ?_
  rintro e w' ⟨v, rr, σ', g', rfl, hR, hinv, hext, hra⟩
  obtain ⟨i1, le1⟩ := r.2.1.fromCallee hinv hext
  have r' := r.later (σ' := σ') (L' := s.L) le1 (fun _ _ h => h) i1 rfl hext.gl (fun b hb => hext.blk b (.inl hb)) hext.size hext.os hext.tape hext.output
  have hg : g' = { g' with lam := [] } := by
   have : g'.lam = [] := List.eq_nil_of_length_eq_zero (by rw [hinv.llam]; rfl)
   cases g'; simp_all
  rw [hg] at hra
  exact hnext _ _ _ hR ⟨_, r'.put (hra.noLam _ _) hd⟩
end
end Go.Aw

namespace Go.Aw
open Go
def Ghost.cut (g : Ghost) (no nt nl : Nat) : Ghost := { g with io := g.io.take no, lam := g.lam.take nl, tb := g.tb.take nt }
def Store.cut (σ : Store) (no nt : Nat) : Store := { σ with objs := σ.objs.take no, toks := σ.toks.take nt }

inductive WV (no nt nl : Nat) : AV → AV → Prop where
 | junk {x : AV} : WV no nt nl x .junk
 | same {x : AV} (h : x.clo no nt nl = true) : WV no nt nl x x
 | pv {x : AV} {p : PV} (h : toPV x = some p) : WV no nt nl x (.pv p)
 | nils : WV no nt nl (.pv .nils) (.pv (.slice []))
 | nilscr {o : Nat} : WV no nt nl (.pv .nils) (.scr o 0 0)

section
variable {ρ : Option Nat} {P : Program} {ty : TyT} {g0 g : Ghost} {σ0 σ : Store} {w0 w : World} {N : Nat} {s : St} {a : Act} {tk : List Tok} {L : List (List AV)} {no nt nl : Nat}
theorem zM {α : Type} {l : List α} {n i : Nat} (h : i < n) : (l.take n)[i]? = l[i]? := by
 rw [List.getElem?_take, if_pos h]

theorem RA.cut {x : AV} {v : Value} (h : RA g tk w x v) (hc : x.clo no nt nl = true) : RA (g.cut no nt nl) (tk.take nt) w x v := by
 induction h with
 | pv h => exact .pv h
 | full h => exact .full h
 | acc h ht hle hsz ho =>
  simp only [AV.clo, decide_eq_true_eq] at hc
  refine .acc h (by rw [zM hc]; exact ht) hle hsz (fun e => ?_)
  rcases ho e with ⟨tb, h1, h2⟩ | h1
  ·exact .inl ⟨tb, by simp only [Ghost.cut]; rw [zM hc]; exact h1, h2⟩
  ·exact .inr h1
 | ptr h =>
  simp only [AV.clo, decide_eq_true_eq] at hc
  exact .ptr (by simp only [Ghost.cut]; rw [zM hc]; exact h)
 | lptr h =>
  simp only [AV.clo, decide_eq_true_eq] at hc
  exact .lptr (by simp only [Ghost.cut]; rw [zM hc]; exact h)
 | map h =>
  simp only [AV.clo, decide_eq_true_eq] at hc
  exact .map (by simp only [Ghost.cut]; rw [zM hc]; exact h)
 | func hl hr ih =>
  simp only [AV.clo, AV.clos_iff] at hc
  exact .func hl (fun i x v hx hv => ih i x v hx hv (hc x (List.mem_of_getElem? hx)))
 | agg hl h1 hr ih =>
  simp only [AV.clo, AV.clos_iff] at hc
  exact .agg hl h1 (fun i x v hx hv => ih i x v hx hv (hc x (List.mem_of_getElem? hx)))
 | tuple hl hr ih =>
  simp only [AV.clo, AV.clos_iff] at hc
  exact .tuple hl (fun i x v hx hv => ih i x v hx hv (hc x (List.mem_of_getElem? hx)))
 | @scr o n cap b h hn h0 =>
  simp only [AV.clo, Bool.or_eq_true, decide_eq_true_eq] at hc
  rcases hc with hc | hc
  ·exact .scr (by simp only [Ghost.cut]; rw [zM hc]; exact h) hn h0
  ·omega
 | scrnil => exact .scrnil
 | sl h hn =>
  simp only [AV.clo, decide_eq_true_eq] at hc
  exact .sl (by simp only [Ghost.cut]; rw [zM hc]; exact h) hn
 | ifc _ ih => exact .ifc (ih hc)
 | @vs kd n c a cs vs hl h1 hcc hr hf hk ih =>
  simp only [AV.clo, Bool.and_eq_true, AV.clos_iff] at hc
  refine .vs hl h1 hcc (fun i x v hx hv => ih i x v hx hv (hc.2 x (List.mem_of_getElem? hx))) hf (fun k e => ?_)
  subst e
  have hkc := hc.1
  simp only [VK.clo, decide_eq_true_eq] at hkc
  obtain ⟨t, k1, k2, k3, k4⟩ := hk k rfl
  refine ⟨t, by rw [zM hkc]; exact k1, k2, k3, fun e => ?_⟩
  rcases k4 e with ⟨tb, h5, h6⟩ | h5
  ·exact .inl ⟨tb, by simp only [Ghost.cut]; rw [zM hkc]; exact h5, h6⟩
  ·exact .inr h5
 | vp hl hcc hr ih =>
  simp only [AV.clo, AV.clos_iff] at hc
  exact .vp hl hcc (fun i x v hx hv => ih i x v hx hv (hc x (List.mem_of_getElem? hx)))
 | junk => exact .junk

theorem RBox.cut {b : Nat} {cs : List AV} (h : RBox g tk w b cs) (hc : AV.clos no nt nl cs = true) : RBox (g.cut no nt nl) (tk.take nt) w b cs := by
 obtain ⟨vs, e, h1, h2, h3, h4⟩ := h
 exact ⟨vs, e, h1, h2, h3, fun i x v hx hv => (h4 i x v hx hv).cut (AV.clos_iff.1 hc x (List.mem_of_getElem? hx))⟩

theorem RArr.cut {b : Nat} {cs : List AV} (h : RArr g tk w b cs) (hc : AV.clos no nt nl cs = true) : RArr (g.cut no nt nl) (tk.take nt) w b cs := by
 obtain ⟨vs, rest, e, h1, h2, h3, h4⟩ := h
 exact ⟨vs, rest, e, h1, h2, h3, fun i x v hx hv => (h4 i x v hx hv).cut (AV.clos_iff.1 hc x (List.mem_of_getElem? hx))⟩

theorem Inv.cut (h : Inv g σ L w) (h1 : ∀ ob, ob ∈ σ.objs.take no → ob.clo no nt nl = true) (h2 : ∀ cs, cs ∈ L.take nl → AV.clos no nt nl cs = true) : Inv (g.cut no nt nl) (σ.cut no nt) (L.take nl) w := by
 have hsub : (g.cut no nt nl).owned.Sublist g.owned := by
  simp only [Ghost.owned, Ghost.cut]
  exact ((List.take_sublist _ _).append (List.take_sublist _ _)).append ((List.take_sublist _ _).filterMap _)
 refine ⟨by simp [Ghost.cut, Store.cut, h.lio], by simp [Ghost.cut, h.llam], by simp [Ghost.cut, Store.cut, h.ltb], h.glob, h.nodup.sublist hsub, fun b hb => h.low b (hsub.subset hb), h.kept, h.base,
  fun b o hS => ?_, fun o ob b ho hio => ?_, fun i cs b hL hl => ?_, fun k t tb ht htb => ?_⟩
 ·have := h.cells b o hS
  exact ⟨this.1, this.2.1, fun hm => this.2.2.1 (List.mem_of_mem_take hm), fun hm => this.2.2.2 (List.mem_of_mem_take hm)⟩
 ·have hlt : o < no := by
   have := (List.getElem?_eq_some_iff.1 ho).1
   simp only [Store.cut, List.length_take] at this; omega
  have hc := h1 ob (List.mem_of_getElem? ho)
  simp only [Store.cut] at ho
  simp only [Ghost.cut] at hio
  rw [zM hlt] at ho hio
  have := h.objs o ob b ho hio
  cases ob with
  | box cs => exact ⟨this.1, this.2.cut hc⟩
  | map ks vs => exact this
  | row e sz cap xs => exact this
  | arr cs => exact ⟨this.1, this.2.cut hc⟩
  | loop l st pe T N ps assign body =>
   obtain ⟨h0, fn, tmps, D, k1, k2, k3⟩ := this
   refine ⟨h0, fn, tmps, D, k1, k2, fun t => ?_⟩
   have hcT : AV.clos no nt nl (T.map (·.2)) = true := hc
   rcases yei (T := T) (t := t) with e | ⟨p, hp, e⟩
   ·rw [e]; exact .junk
   ·exact (k3 t).cut (by rw [e]; exact AV.clos_iff.1 hcT _ (List.mem_map.2 ⟨p, hp, rfl⟩))
 ·have hlt : i < nl := by
   have := (List.getElem?_eq_some_iff.1 hL).1
   rw [List.length_take] at this; omega
  have hc := h2 cs (List.mem_of_getElem? hL)
  simp only [Ghost.cut] at hl
  rw [zM hlt] at hL hl
  exact (h.priv i cs b hL hl).cut hc
 ·have hlt : k < nt := by
   have := (List.getElem?_eq_some_iff.1 ht).1
   simp only [Store.cut, List.length_take] at this; omega
  simp only [Store.cut] at ht
  simp only [Ghost.cut] at htb
  rw [zM hlt] at ht htb
  exact h.toks k t tb ht htb

theorem Ext.cut (h : Ext g0 σ0 w0 g σ w) (h1 : σ0.objs.length ≤ no) (h2 : σ0.toks.length ≤ nt) : Ext g0 σ0 w0 (g.cut no nt nl) (σ.cut no nt) w := by
 refine ⟨⟨h.le.B, h.le.keeps, fun i b hi => ?_, fun k t ht => ?_⟩, h.gl, h.K, h.blk, h.size, h.os, h.tape, h.output, h.io0, h.clo0⟩
 ·have hlt : i < no := by
   have := (List.getElem?_eq_some_iff.1 hi).1
   have := h.io0; omega
  simp only [Ghost.cut]
  rw [zM hlt]; exact h.le.io i b hi
 ·have hlt : k < nt := by
   have := (List.getElem?_eq_some_iff.1 ht).1; omega
  obtain ⟨t', k1, k2, k3, k4, k5⟩ := h.le.tok k t ht
  refine ⟨t', by simp only [Store.cut]; rw [zM hlt]; exact k1, k2, k3, k4, fun e => ?_⟩
  simp only [Ghost.cut]
  rw [zM hlt]; exact k5 e

theorem yoW {T T2 : List (Nat × AV)} {a : Act} (h : ∀ t, RA g tk w (get T t) (a.tmps.getD t undef)) (hw : ∀ p, p ∈ T2 → WV no nt nl (get T p.1) p.2) : ∀ t, RA (g.cut no nt nl) (tk.take nt) w (get T2 t) (a.tmps.getD t undef) := by
 intro t
 induction T2 with
 | nil => exact .junk
 | cons p r ih =>
  obtain ⟨d, v⟩ := p
  simp only [get]
  split
  ·subst_vars
   have h1 := hw (d, v) (by simp)
   have h2 := h d
   simp only at h1
   generalize get T d = y at h1 h2
   cases h1 with
   | junk => exact .junk
   | same hc => exact h2.cut hc
   | pv hp => exact .pv (h2.toPV hp)
   | nils =>
    have := h2.pv_inv.nils_inv
    rw [this]; exact .pv .empty
   | nilscr =>
    have := h2.pv_inv.nils_inv
    rw [this]; exact .scrnil
  ·exact ih (fun p hp => hw p (by simp [hp]))

mutual
theorem AV.clo_mono {a b c a' b' c' : Nat} (h1 : a ≤ a') (h2 : b ≤ b') (h3 : c ≤ c') : ∀ x : AV, x.clo a b c = true → x.clo a' b' c' = true
 | .ptr o _, h => by simp only [AV.clo, decide_eq_true_eq] at h ⊢; omega
 | .lptr i _, h => by simp only [AV.clo, decide_eq_true_eq] at h ⊢; omega
 | .map o, h => by simp only [AV.clo, decide_eq_true_eq] at h ⊢; omega
 | .scr o _ _, h => by simp only [AV.clo, Bool.or_eq_true, decide_eq_true_eq] at h ⊢; omega
 | .acc _ k, h => by simp only [AV.clo, decide_eq_true_eq] at h ⊢; omega
 | .func _ cs, h => by simp only [AV.clo] at h ⊢; exact AV.clos_mono h1 h2 h3 cs h
 | .agg cs, h => by simp only [AV.clo] at h ⊢; exact AV.clos_mono h1 h2 h3 cs h
 | .tuple cs, h => by simp only [AV.clo] at h ⊢; exact AV.clos_mono h1 h2 h3 cs h
 | .sl o _ _, h => by simp only [AV.clo, decide_eq_true_eq] at h ⊢; omega
 | .ifc _ x, h => by simp only [AV.clo] at h ⊢; exact AV.clo_mono h1 h2 h3 x h
 | .vs kd _ cs, h => by
  simp only [AV.clo, Bool.and_eq_true] at h ⊢
  refine ⟨?_, AV.clos_mono h1 h2 h3 cs h.2⟩
  cases kd with
  | tok k => have := h.1; simp only [VK.clo, decide_eq_true_eq] at this ⊢; omega
  | _ => rfl
 | .vp cs, h => by simp only [AV.clo] at h ⊢; exact AV.clos_mono h1 h2 h3 cs h
 | .pv _, _ => rfl
 | .full _, _ => rfl
 | .junk, _ => rfl
theorem AV.clos_mono {a b c a' b' c' : Nat} (h1 : a ≤ a') (h2 : b ≤ b') (h3 : c ≤ c') : ∀ l : List AV, AV.clos a b c l = true → AV.clos a' b' c' l = true
 | [], _ => rfl
 | x :: l, h => by
  simp only [AV.clos, Bool.and_eq_true] at h ⊢
  exact ⟨AV.clo_mono h1 h2 h3 x h.1, AV.clos_mono h1 h2 h3 l h.2⟩
end
theorem AObj.clo_mono {a b c a' b' c' : Nat} (h1 : a ≤ a') (h2 : b ≤ b') (h3 : c ≤ c') {o : AObj} (h : o.clo a b c = true) : o.clo a' b' c' = true := by
 cases o with
 | box cs => exact AV.clos_mono h1 h2 h3 cs h
 | map ks vs => rfl
 | row e sz cap xs => rfl
 | arr cs => exact AV.clos_mono h1 h2 h3 cs h
 | loop l st pe T N ps assign body => exact AV.clos_mono h1 h2 h3 _ h

structure Weak (σ0 : Store) (no nt nl : Nat) (s s2 : St) : Prop where
 objs : s2.σ = s.σ.cut no nt
 L : s2.L = s.L.take nl
 lo : σ0.objs.length ≤ no
 lt : σ0.toks.length ≤ nt
 T : ∀ p, p ∈ s2.T → WV no nt nl (get s.T p.1) p.2
 co : ∀ ob, ob ∈ s2.σ.objs → ob ∈ σ0.objs ∨ ob.clo no nt nl = true
 cL : ∀ cs, cs ∈ s2.L → AV.clos no nt nl cs = true

theorem Weak.rel {s2 : St} (h : Weak σ0 no nt nl s s2) (r : RelG g0 σ0 w0 N g s a w) : RelG g0 σ0 w0 N (g.cut no nt nl) s2 a w := by
 obtain ⟨T2, L2, σ2⟩ := s2
 obtain ⟨h1, h2, h3, h4, h5, h6, h7⟩ := h
 simp only at h1 h2 h5 h6 h7
 subst h1 h2
 refine ⟨r.1.cut h3 h4, r.2.1.cut (fun ob hob => ?_) h7, r.2.2.1, r.2.2.2.1, yoW r.2.2.2.2 h5⟩
 rcases h6 ob hob with h | h
 ·exact AObj.clo_mono h3 h4 (Nat.zero_le _) (r.1.clo0 ob h)
 ·exact h

theorem yiv {c : Code} {Q : Exit → St → Prop} {s2 : St} (no nt nl : Nat) (h : Weak σ0 no nt nl s s2) (k : AWpR ρ P σ0 N c Q s2) : AWpR ρ P σ0 N c Q s :=
 fun g0 w0 a w ⟨g, r⟩ => k g0 w0 a w ⟨_, h.rel r⟩

def argT : Nat → List AV → List (Nat × AV)
 | _, [] => []
 | k, x :: r => (k, x) :: argT (k + 1) r

theorem yiW : ∀ (l : List AV) (k t : Nat), get (argT k l) t = if k ≤ t then (l[t - k]?).getD .junk else .junk
 | [], k, t => by simp [argT, get]
 | x :: r, k, t => by
  simp only [argT, get, yiW r (k + 1) t]
  by_cases h : k = t
  ·subst h; simp
  ·rw [if_neg h]
   by_cases h2 : k ≤ t
   ·rw [if_pos (by omega), if_pos h2, show t - k = (t - (k + 1)) + 1 by omega]; simp
   ·rw [if_neg (by omega), if_neg h2]

def Y4 (ty : TyT) (s : St) : List ResultVar → Option (List AV)
 | [] => some []
 | .tmp t :: r => (Y4 ty s r).map (get s.T t :: ·)
 | .cell c t :: r => match ty t with
  | some ti => (Yi s ti (get s.T c)).bind fun x => (Y4 ty s r).map (x :: ·)
  | none => none

def yaz : List AV → AV
 | [x] => x
 | l => .tuple l

def Ends (ty : TyT) (rs : List ResultVar) (R : AV → Store → Prop) : Exit → St → Prop
 | .normal, s | .ret, s => ∃ l, Y4 ty s rs = some l ∧ AV.noLs l = true ∧ R (yaz l) s.σ
 | _, _ => False

theorem ybU (hty : TyOk P ty) (r : RelG g0 σ0 w0 N g s a w) : ∀ (rs : List ResultVar) (l : List AV), Y4 ty s rs = some l →
  ∃ vs : List Value, (rs.mapM (m := Sem) fun | .tmp t => pure (a.tmps.getD t undef) | .cell c t => do loadVar t (← asAddr (a.tmps.getD c undef))).run P w = .ok vs w ∧ vs.length = l.length ∧ ∀ (i : Nat) x v, l[i]? = some x → vs[i]? = some v → RA g s.σ.toks w x v
 | [], l, h => by
  simp [Y4] at h; subst h
  exact ⟨[], rfl, rfl, fun i x v hx => by simp at hx⟩
 | .tmp t :: rs, l, h => by
  simp only [Y4] at h
  obtain ⟨l', h', rfl⟩ := Option.map_eq_some_iff.1 h
  obtain ⟨vs, h1, h2, h3⟩ := ybU hty r rs l' h'
  refine ⟨a.tmps.getD t undef :: vs, ?_, by simp [h2], fun i x v hx hv => ?_⟩
  ·simp only [List.mapM_cons, Sem.run_bind, Sem.run_pure, Result.andThen_ok, h1]
  ·cases i with
   | zero => simp only [List.getElem?_cons_zero, Option.some.injEq] at hx hv; subst hx; subst hv; exact r.2.2.2.2 t
   | succ i => simp only [List.getElem?_cons_succ] at hx hv; exact h3 i x v hx hv
 | .cell c t :: rs, l, h => by
  simp only [Y4] at h
  split at h
  ·rename_i ti hti
   obtain ⟨y, hy, h⟩ := Option.bind_eq_some_iff.1 h
   obtain ⟨l', h', rfl⟩ := Option.map_eq_some_iff.1 h
   obtain ⟨vs, h1, h2, h3⟩ := ybU hty r rs l' h'
   obtain ⟨v0, k1, k2⟩ := ydw (P := P) hty r hti (r.2.2.2.2 c) hy
   have hload : (do loadVar t (← asAddr (a.tmps.getD c undef)) : Sem Value).run P w = .ok v0 w := by
    have : ∃ b off, a.tmps.getD c undef = .pointer (some ⟨b, off, none⟩) := by
     have hc := r.2.2.2.2 c
     generalize get s.T c = z at hy hc
     generalize a.tmps.getD c undef = zv at hc
     unfold Yi at hy
     split at hy
     ·exact hc.pv_inv.ptr_inv
     ·cases hc; exact ⟨_, _, rfl⟩
     ·cases hc; exact ⟨_, _, rfl⟩
     ·cases hc; exact ⟨_, _, rfl⟩
     ·cases hy
    obtain ⟨b, off, hb⟩ := this
    rw [hb] at k1 ⊢
    simpa [Instr.loadAt, Instr.sureAddr, asAddr] using k1
   refine ⟨v0 :: vs, ?_, by simp [h2], fun i x v hx hv => ?_⟩
   ·simp only [List.mapM_cons, Sem.run_bind] at hload ⊢
    simp only [hload, Sem.run_pure, Result.andThen_ok, h1]
   ·cases i with
    | zero => simp only [List.getElem?_cons_zero, Option.some.injEq] at hx hv; subst hx; subst hv; exact k2
    | succ i => simp only [List.getElem?_cons_succ] at hx hv; exact h3 i x v hx hv
  ·cases h

theorem Inv.noPriv (h : Inv g σ L w) : Inv { g with lam := [] } σ [] w := by
 have k := h.toCallee
 refine ⟨k.lio, k.llam, k.ltb, k.glob, k.nodup, fun b hb => ?_, h.kept, k.base, k.cells, fun o ob b ho hio => ?_, fun i cs b hL => by simp at hL, k.toks⟩
 ·have := k.low b hb
  exact ⟨this.1, this.2.1, fun hK => this.2.2 (.inl hK)⟩
 ·exact RObj.mono (g := { g with lam := [], K := fun b => g.K b ∨ b ∈ g.lam }) (g' := { g with lam := [] }) (tk := σ.toks) (tk' := σ.toks) (w := w) (w' := w) ⟨rfl, Keeps.refl _ _ _, fun _ _ h => h, fun _ t h => ⟨t, h, rfl, rfl, Nat.le_refl _, fun _ => rfl⟩⟩ (fun _ _ h => h) rfl (k.objs o ob b ho hio)

theorem RelG.putK (r : RelG g0 σ0 w0 N g s a w) {D : Nat} (h1 : g.K D) (h2 : ¬ g0.K D) (h3 : g.B ≤ D) (ob : Obj) {ds : List Deferred} (hm : Marks g0 g (w.putObj D ob) ds) : RelG g0 σ0 w0 N g s { a with defers := ds } (w.putObj D ob) := by
 have hb : ∀ c : Nat, c ≠ D → (w.putObj D ob).heap[c]? = w.heap[c]? := fun c hc => World.putObj_heap_other hc
 have inv := r.2.1
 have hS : ∀ o, ¬ g.S D o := (inv.kept D h1).2
 have le : Le g s.σ.toks w g s.σ.toks (w.putObj D ob) := by
  refine ⟨rfl, ⟨fun _ _ h => h, fun b o hbo => ?_, fun b hlt => hb b (by omega)⟩, fun _ _ h => h, fun _ t h => ⟨t, h, rfl, rfl, Nat.le_refl _, fun _ => rfl⟩⟩
  refine World.cell?_of_block (w := w) (a := ⟨b, o, none⟩) (hb b ?_)
  rintro rfl
  rcases hbo with h | h
  ·omega
  ·exact hS o h
 have how : ∀ b, b ∈ g.owned → b ≠ D := fun b hbo e => (inv.low b hbo).2.2 (e ▸ h1)
 have e := r.1
 refine ⟨⟨e.le.trans le, e.gl, e.K, fun b hK => (hb b (fun e => h2 (e ▸ hK))).trans (e.blk b hK), by rw [World.putObj_size]; exact e.size, e.os, e.tape, e.output, e.io0, e.clo0⟩, ?_, r.2.2.1, hm, fun t => (r.2.2.2.2 t).mono le fun _ _ h => h⟩
 refine ⟨inv.lio, inv.llam, inv.ltb, fun n p hp => (inv.glob n p hp).mono le.keeps, inv.nodup, fun b hbo => ?_, fun b hbK => ?_, by rw [World.putObj_size]; exact inv.base, fun b o h => ?_, fun o ob' b ho hio => ?_, fun i cs b hL hl => ?_, fun k t tb ht htb => ?_⟩
 ·have := inv.low b hbo; rw [World.putObj_size]; exact this
 ·have := inv.kept b hbK; rw [World.putObj_size]; exact this
 ·have := inv.cells b o h; rw [World.putObj_size]; exact this
 ·exact (inv.objs o ob' b ho hio).mono le (fun _ _ h => h) (hb b (how b (ydK hio)))
 ·exact (inv.priv i cs b hL hl).mono le (fun _ _ h => h) (hb b (how b (ykB hl)))
 ·obtain ⟨cur, k1, k2⟩ := inv.toks k t tb ht htb
  exact ⟨cur, (hb _ (how _ (yi6 htb))).trans k1, k2⟩

theorem yeA {fn : Func} {R : Ending → World → Prop} (fin : ∀ (a : Act) (w : World), RelG g0 σ0 w0 N g s a w → ∃ v, (results fn a.tmps).run P w = .ok v w ∧ R (.returned v) w) :
  ∀ (Ds : List Nat) (a : Act) (w : World), RelG g0 σ0 w0 N g s a w → Ds.Nodup → (∀ D, D ∈ Ds → g.K D ∧ ¬ g0.K D ∧ g.B ≤ D ∧ w.heap[D]? = some (.deferred (some []))) →
   LeavesInM Fence.wide 0 P fn a.tmps R (Ds.map fun D => { target := .collected D, args := #[] }) .returning w
 | [], a, w, r, _, _ => fin a w r
 | D :: Ds, a, w, r, hn, h => by
  obtain ⟨k1, k2, k3, k4⟩ := h D (by simp)
  have hn' := List.nodup_cons.1 hn
  refine ⟨by simp, .inl ⟨D, _, rfl, run_takeDeferred k4, ?_⟩⟩
  have h' : ∀ D', D' ∈ Ds → g.K D' ∧ ¬ g0.K D' ∧ g.B ≤ D' ∧ (w.putObj D (.deferred none)).heap[D']? = some (.deferred (some [])) := fun D' hD' => by
   obtain ⟨j1, j2, j3, j4⟩ := h D' (by simp [hD'])
   exact ⟨j1, j2, j3, (World.putObj_heap_other (fun e : D' = D => hn'.1 (by rw [← e]; exact hD'))).trans j4⟩
  exact yeA fin Ds { a with defers := Ds.map fun D => { target := .collected D, args := #[] } } _ (r.putK k1 k2 k3 _ ⟨Ds, rfl, hn'.2, h'⟩) hn'.2 h'

theorem yk (hty : TyOk P ty) {f : FuncId} {fn : Func} {c : Code} {args : List AV} {R : AV → Store → Prop} (hf : P.funcs[f]? = some fn) (hb : fn.body = some c) (hn : args.length ≤ fn.ntmps)
  (h : AWp P σ fn.ntmps c (Ends ty fn.results.toList R) ⟨argT 0 args, [], σ⟩) : ACalls P f args σ R := by
 intro g w cargs hinv hlen hargs
 have hrel : RelG g σ w fn.ntmps g ⟨argT 0 args, [], σ⟩ { tmps := cargs.toArray ++ Array.replicate (fn.ntmps - cargs.toArray.size) undef, defers := [] } w := by
  refine ⟨Ext.refl hinv, hinv, by simp [hlen]; omega, Marks.nil, fun t => ?_⟩
  simp only [yiW, Nat.zero_le, if_true, Nat.sub_zero]
  cases hx : args[t]? with
  | none => exact .junk
  | some x =>
   have hlt : t < cargs.length := by rw [hlen]; exact (List.getElem?_eq_some_iff.1 hx).1
   have : (cargs.toArray ++ Array.replicate (fn.ntmps - cargs.toArray.size) undef).getD t undef = cargs[t] := by
    rw [Array.getD_eq_getD_getElem?, Array.getElem?_append_left (by simpa using hlt)]
    simp [hlt]
   rw [this]
   exact hargs t x _ hx (by simp)
 refine (callsIn_wide (n := 0)).1 (callsIn_of_wp_marks (F := Fence.wide) hf hb trivial (R := fun e w' => ∃ v r σ' g', e = .returned v ∧ R r σ' ∧ Inv g' σ' [] w' ∧ Ext g σ w g' σ' w' ∧ RA g' σ'.toks w' r v) ?_)
 refine wpIn_mono (h g w _ w ⟨g, hrel⟩) ?_
 have fin : ∀ (a' : Act) (w' : World) (s' : St), Rel g σ w fn.ntmps s' a' w' → (∃ l, Y4 ty s' fn.results.toList = some l ∧ AV.noLs l = true ∧ R (yaz l) s'.σ) →
   LeavesInM Fence.wide 0 P fn a'.tmps (fun e w' => ∃ v r σ' g', e = .returned v ∧ R r σ' ∧ Inv g' σ' [] w' ∧ Ext g σ w g' σ' w' ∧ RA g' σ'.toks w' r v) a'.defers .returning w' := by
  rintro a' w' s' ⟨g', r⟩ ⟨l, h1, h2, h3⟩
  obtain ⟨Ds, m1, m2, m3⟩ := r.2.2.2.1
  rw [m1]
  refine yeA (fun a' w' r => ?_) Ds a' w' r m2 m3
  obtain ⟨vs, k1, k2, k3⟩ := ybU (P := P) hty r _ _ h1
  have hnl := AV.noLs_iff.1 h2
  refine ⟨if hh : vs.toArray.size = 1 then vs.toArray[0] else .tuple vs.toArray, ?_, _, yaz l, s'.σ, { g' with lam := [] }, rfl, h3, r.2.1.noPriv, ⟨⟨r.1.le.B, r.1.le.keeps, r.1.le.io, r.1.le.tok⟩, r.1.gl, r.1.K, r.1.blk, r.1.size, r.1.os, r.1.tape, r.1.output, r.1.io0, r.1.clo0⟩, ?_⟩
  ·simp only [results, Array.mapM_eq_mapM_toList, Sem.run_bind, Sem.run_map, Sem.run_pure]
   exact (congrArg (fun z : Result (List Value) => (z.andThen fun a w' => Result.ok a.toArray w').andThen fun a w' => Result.ok (if h : a.size = 1 then a[0] else Value.tuple a) w') k1).trans rfl
  ·match l, vs, k2, k3, hnl with
   | [x], [v], _, k3, hnl =>
    simp only [yaz]
    exact (k3 0 x v rfl rfl).toCallee (hnl x (by simp)) _ _
   | [], [], _, k3, hnl => exact .tuple rfl (fun i x v hx => by simp at hx)
   | x :: y :: l, u :: v :: vs, k2, k3, hnl =>
    have hne : ¬ (u :: v :: vs).toArray.size = 1 := by simp
    rw [dif_neg hne]
    exact .tuple k2 (fun i x v hx hv => (k3 i x v hx hv).toCallee (hnl x (List.mem_of_getElem? hx)) _ _)
 rintro e a' w' ⟨s', q, r⟩
 cases e with
 | normal => exact fin a' w' s' r q
 | ret => exact fin a' w' s' r q
 | exit => exact q.elim
 | goto => exact q.elim
 | panic => exact q.elim
 | outgrown => exact q.elim
end
end Go.Aw

namespace Go.Aw
open Go
def KA.fits : KA → PV → Bool
 | .int k, .int j _ => k == j
 | .str, .str _ => true
 | .bool, .bool _ => true
 | _, _ => false

def yV : List KA → List PV → Bool
 | [], [] => true
 | a :: l, p :: r => a.fits p && yV l r
 | _, _ => false

def KS.fits : KS → PV → Bool
 | .one a, p => a.fits p
 | .many l, .agg ps => yV l ps
 | _, _ => false

def yW : PV → Value
 | .int k n => .int k n
 | .str s => .string s
 | .bool b => .bool b
 | _ => undef

def keyV : PV → Value
 | .agg ps => .agg (ps.map yW).toArray
 | p => yW p

def PV.keq : PV → PV → Bool
 | .agg a, .agg b => ZA a b
 | a, b => zY a b

def kfind (x : PV) : List PV → Option Nat
 | [] => none
 | k :: r => if x.keq k then some 0 else (kfind x r).map (· + 1)

section
variable {P : Program} {w : World} {B : Nat} {S : Nat → Nat → Prop} {a : KA} {p q : PV} {u v : Value}
theorem KA.fits_val (h : a.fits p = true) (hr : RP B S w p v) : v = yW p := by
 cases a <;> cases p <;> simp [KA.fits] at h <;> cases hr <;> rfl

theorem yaG : ∀ {l : List KA} {ps : List PV} {vs : List Value}, yV l ps = true → vs.length = ps.length → (∀ (i : Nat) x v, ps[i]? = some x → vs[i]? = some v → RP B S w x v) → vs = ps.map yW
 | [], [], vs, _, hl, _ => by simpa using hl
 | a :: l, p :: ps, vs, h, hl, hr => by
  cases vs with
  | nil => simp at hl
  | cons v vs =>
   simp only [yV, Bool.and_eq_true] at h
   simp only [List.map_cons]
   rw [KA.fits_val h.1 (hr 0 p v rfl rfl), ← yaG h.2 (by simpa using hl) (fun i x v hx hv => hr (i + 1) x v (by simpa using hx) (by simpa using hv))]
 | [], _ :: _, _, h, _, _ => by simp [yV] at h
 | _ :: _, [], _, h, _, _ => by simp [yV] at h

theorem KS.fits_val {k : KS} (h : k.fits p = true) (hr : RP B S w p v) : v = keyV p := by
 cases k with
 | one a =>
  have : keyV p = yW p := by cases a <;> cases p <;> simp [KS.fits, KA.fits] at h <;> rfl
  rw [this]; exact KA.fits_val h hr
 | many l =>
  cases p <;> simp only [KS.fits, Bool.false_eq_true] at h
  cases hr with
  | agg hl h1 hr =>
   simp only [keyV]
   rw [yaG h hl hr]

theorem KA.refl (h : a.fits p = true) : zY p p = true := by
 cases a <;> cases p <;> simp [KA.fits] at h <;> simp [zY]

theorem ydE : ∀ {l : List KA} {ps : List PV}, yV l ps = true → ZA ps ps = true
 | [], [], _ => rfl
 | a :: l, p :: ps, h => by
  simp only [yV, Bool.and_eq_true] at h
  simp only [ZA, KA.refl h.1, ydE h.2, Bool.and_self]
 | [], _ :: _, h => by simp [yV] at h
 | _ :: _, [], h => by simp [yV] at h

theorem yr0 {x y : PV} (h : x.keq y = true) : x = y := by
 unfold PV.keq at h
 split at h
 ·rw [yfd h]
 ·exact ybL h

theorem ynT {k : KS} (h : k.fits p = true) : p.keq p = true := by
 cases k with
 | one a => cases a <;> cases p <;> simp [KS.fits, KA.fits] at h <;> simp [PV.keq, zY]
 | many l =>
  cases p <;> simp only [KS.fits, Bool.false_eq_true] at h
  exact ydE h

theorem ydT {t : TypeId} {d : TypeDesc} (hd : P.underlying t = some d) (ha : a.descIs d = true) (n : Nat) (hp : a.fits p = true) (hq : a.fits q = true) :
  (Op.equalIn (n + 1) t (yW p) (yW q)).run P w = .ok (zY p q) w := by
 cases a <;> cases d <;> simp [KA.descIs] at ha <;> cases p <;> simp [KA.fits] at hp <;> cases q <;> simp [KA.fits] at hq
 ·subst_vars
  rw [yW, yW, run_equalIn_int w n t _ _ _ _ hd]
  simp only [zY, beq_self_eq_true, Bool.true_and]
 ·rw [yW, yW, run_equalIn_string w n t _ _ hd, yae]
  rfl
 ·rw [yW, yW, run_equalIn_bool w n t _ _ hd]
  rfl

theorem ydp {t : TypeId} {d : TypeDesc} (hd : P.underlying t = some d) (ha : a.descIs d = true) {xs : Array Value} {off : Nat} (hx : xs[off]? = some v) : (part t xs off).run P w = .ok v w := by
 cases a <;> cases d <;> simp [KA.descIs] at ha <;> simp [part, isAgg, run_underlying hd, hx]

theorem ydi {t : TypeId} {d : TypeDesc} (hd : P.underlying t = some d) (ha : a.descIs d = true) (hp : a.fits p = true) (em : Bool) (n : Nat) : (Instr.checkKey em (n + 1) t (yW p)).run P w = .ok () w := by
 cases a <;> cases d <;> simp [KA.descIs] at ha <;> cases p <;> simp [KA.fits] at hp <;> simp [Instr.checkKey, run_underlying hd, yW]

theorem ydD (n : Nat) (xs ys : List PV) : ∀ (fs : List Field) (l : List KA) (i : Nat), YF P i fs l = true → yV l (xs.drop i) = true → yV l (ys.drop i) = true →
  (Op.eqFields (n + 1) (xs.map yW).toArray (ys.map yW).toArray fs).run P w = .ok (ZA (xs.drop i) (ys.drop i)) w
 | [], [], i, _, hx, hy => by
  cases h1 : xs.drop i with
  | nil =>
   cases h2 : ys.drop i with
   | nil => simp [Op.eqFields, ZA]
   | cons => rw [h2] at hy; simp [yV] at hy
  | cons => rw [h1] at hx; simp [yV] at hx
 | f :: fs, a :: l, i, h, hx, hy => by
  simp only [YF, Bool.and_eq_true, bne_iff_ne, ne_eq, beq_iff_eq] at h
  obtain ⟨⟨⟨h1, h2⟩, h3⟩, h4⟩ := h
  split at h3
  ·rename_i d hd
   cases e1 : xs.drop i with
   | nil => rw [e1] at hx; simp [yV] at hx
   | cons p xs' =>
    cases e2 : ys.drop i with
    | nil => rw [e2] at hy; simp [yV] at hy
    | cons q ys' =>
     rw [e1] at hx; rw [e2] at hy
     simp only [yV, Bool.and_eq_true] at hx hy
     have d1 : xs.drop (i + 1) = xs' := by rw [← List.drop_drop, e1]; rfl
     have d2 : ys.drop (i + 1) = ys' := by rw [← List.drop_drop, e2]; rfl
     have g1 : (xs.map yW).toArray[i]? = some (yW p) := by
      have : xs[i]? = some p := by have := congrArg (·[0]?) e1; simpa [List.getElem?_drop] using this
      simp [this]
     have g2 : (ys.map yW).toArray[i]? = some (yW q) := by
      have : ys[i]? = some q := by have := congrArg (·[0]?) e2; simpa [List.getElem?_drop] using this
      simp [this]
     have ih := ydD n xs ys fs l (i + 1) h4 (by rw [d1]; exact hx.2) (by rw [d2]; exact hy.2)
     rw [d1, d2] at ih
     simp only [Op.eqFields, h1, ne_eq, not_false_eq_true, if_true, Sem.run_bind, h2, ydp hd h3 g1, ydp hd h3 g2, ydT hd h3 n hx.1 hy.1, Result.andThen_ok, ZA]
     cases zY p q
     ·simp
     ·simpa using ih
  ·cases h3
 | [], _ :: _, i, h, _, _ => by simp [YF] at h
 | _ :: _, [], i, h, _, _ => by simp [YF] at h

theorem yjK {t : TypeId} {k : KS} (hk : Zt P t k = true) (n : Nat) (hp : k.fits p = true) (hq : k.fits q = true) :
  (Op.equalIn (n + 2) t (keyV p) (keyV q)).run P w = .ok (p.keq q) w := by
 cases k with
 | one a =>
  simp only [Zt] at hk
  split at hk
  ·rename_i d hd
   have := ydT (P := P) (w := w) hd hk (n + 1) hp hq
   cases a <;> cases p <;> simp [KS.fits, KA.fits] at hp <;> cases q <;> simp [KS.fits, KA.fits] at hq <;> exact this
  ·cases hk
 | many l =>
  cases p <;> simp only [KS.fits, Bool.false_eq_true] at hp
  cases q <;> simp only [KS.fits, Bool.false_eq_true] at hq
  simp only [Zt] at hk
  split at hk
  ·rename_i fs hd
   simp only [Bool.and_eq_true, Bool.not_eq_true'] at hk
   have hfs : P.fieldsOf t = fs := by simp [Program.fieldsOf, hd]
   rw [keyV, keyV, run_equalIn_struct w (n + 1) t _ _ (by rw [hfs]; exact hd) hk.1, hfs]
   exact ydD n _ _ fs.toList l 0 hk.2 hp hq
  ·cases hk

theorem ybu (em : Bool) (n : Nat) (xs : List PV) : ∀ (fs : List Field) (l : List KA) (i : Nat), YF P i fs l = true → yV l (xs.drop i) = true →
  (forIn fs PUnit.unit (fun f _ => if f.name ≠ "_" then (do let x ← part f.type (xs.map yW).toArray f.offset; Instr.checkKey em (n + 1) f.type x; pure (ForInStep.yield PUnit.unit)) else pure (ForInStep.yield PUnit.unit)) : Sem PUnit).run P w = .ok () w
 | [], _, _, _, _ => by simp
 | f :: fs, a :: l, i, h, hx => by
  simp only [YF, Bool.and_eq_true, bne_iff_ne, ne_eq, beq_iff_eq] at h
  obtain ⟨⟨⟨h1, h2⟩, h3⟩, h4⟩ := h
  split at h3
  ·rename_i d hd
   cases e1 : xs.drop i with
   | nil => rw [e1] at hx; simp [yV] at hx
   | cons p xs' =>
    rw [e1] at hx
    simp only [yV, Bool.and_eq_true] at hx
    have d1 : xs.drop (i + 1) = xs' := by rw [← List.drop_drop, e1]; rfl
    have g1 : (xs.map yW).toArray[i]? = some (yW p) := by
     have : xs[i]? = some p := by have := congrArg (·[0]?) e1; simpa [List.getElem?_drop] using this
     simp [this]
    have ih := ybu em n xs fs l (i + 1) h4 (by rw [d1]; exact hx.2)
    simp only [List.forIn_cons, h1, ne_eq, not_false_eq_true, if_true, Sem.run_bind, h2, ydp hd h3 g1, ydi hd h3 hx.1 em n, Result.andThen_ok, Sem.run_pure]
    exact ih
  ·cases h3
 | f :: fs, [], _, h, _ => by simp [YF] at h

theorem ydJ {t : TypeId} {k : KS} (hk : Zt P t k = true) (em : Bool) (n : Nat) (hp : k.fits p = true) : (Instr.checkKey em (n + 2) t (keyV p)).run P w = .ok () w := by
 cases k with
 | one a =>
  simp only [Zt] at hk
  split at hk
  ·rename_i d hd
   have := ydi (P := P) (w := w) hd hk hp em (n + 1)
   cases a <;> cases p <;> simp [KS.fits, KA.fits] at hp <;> exact this
  ·cases hk
 | many l =>
  cases p <;> simp only [KS.fits, Bool.false_eq_true] at hp
  rename_i ps
  simp only [Zt] at hk
  split at hk
  ·rename_i fs hd
   simp only [Bool.and_eq_true, Bool.not_eq_true'] at hk
   have := ybu (P := P) (w := w) em n ps fs.toList l 0 hk.2 hp
   rw [keyV, Instr.checkKey]
   simp only [Sem.run_bind, run_underlying hd, Result.andThen_ok]
   rw [← Array.forIn_toList]
   exact (congrArg (fun z : Result PUnit => z.andThen fun _ w' => (pure () : Sem Unit).run P w') this).trans rfl
  ·cases hk

theorem yhH (h : a.fits p = true) (n : Nat) : Instr.sameBits n (yW p) (yW p) = true := by
 cases a <;> cases p <;> simp [KA.fits] at h <;> cases n <;> simp [Instr.sameBits, yW, MapKept.bytes_beq]

theorem ybB (n : Nat) : ∀ {l : List KA} {ps : List PV}, yV l ps = true → (((ps.map yW).zip (ps.map yW)).all fun (x, y) => Instr.sameBits n x y) = true
 | [], [], _ => rfl
 | a :: l, p :: ps, h => by
  simp only [yV, Bool.and_eq_true] at h
  simp only [List.map_cons, List.zip_cons_cons, List.all_cons, yhH h.1 n, Bool.true_and]
  exact ybB n h.2
 | [], _ :: _, h => by simp [yV] at h
 | _ :: _, [], h => by simp [yV] at h

theorem ylL {k : KS} (h : k.fits p = true) : (Instr.keyThatStays (keyV p) (keyV p)).run P w = .ok (keyV p) w := by
 have hs : ∀ n, Instr.sameBits (n + 1) (keyV p) (keyV p) = true := by
  intro n
  cases k with
  | one a => cases a <;> cases p <;> simp [KS.fits, KA.fits] at h <;> simp [keyV, yW, Instr.sameBits, MapKept.bytes_beq]
  | many l =>
   cases p <;> simp only [KS.fits, Bool.false_eq_true] at h
   simp only [keyV, Instr.sameBits, beq_self_eq_true, Bool.true_and]
   exact ybB n h
 have := hs 9999
 simp [Instr.keyThatStays, this]

theorem ycr {t : TypeId} {k : KS} (hk : Zt P t k = true) (hp : k.fits p = true) : ∀ (es : List MapEntry) (ks : List PV) (i : Nat), es.map (·.key) = ks.map keyV → (∀ x ∈ ks, k.fits x = true) →
  (Instr.findAsking t (keyV p) es i).run P w = .ok ((kfind p ks).bind fun j => (es[j]?).map fun e => (i + j, e.val)) w
 | [], [], i, _, _ => by simp [Instr.findAsking, kfind]
 | e :: es, q :: ks, i, h, hf => by
  simp only [List.map_cons, List.cons.injEq] at h
  have h1 := yjK (P := P) (w := w) hk 9998 hp (hf q (by simp))
  simp only [Instr.findAsking, Op.equal, Op.maxDepth, Sem.run_bind, h.1, h1, Result.andThen_ok, kfind]
  cases p.keq q
  ·have ih := ycr hk hp es ks (i + 1) h.2 (fun x hx => hf x (by simp [hx]))
   simp only [Bool.false_eq_true, if_false, ih]
   congr 1
   cases kfind p ks with
   | none => rfl
   | some j => simp; cases es[j]? <;> simp; omega
  ·simp
 | [], _ :: _, _, h, _ => by simp at h
 | _ :: _, [], _, h, _ => by simp at h

theorem yd3 {d : TypeDesc} (ha : a.descIs d = true) (hp : a.fits p = true) : ∀ (es : List MapEntry) (ks : List PV) (i : Nat), es.map (·.key) = ks.map keyV → (∀ x ∈ ks, a.fits x = true) →
  Instr.findNow d (yW p) es i = some ((kfind p ks).bind fun j => (es[j]?).map fun e => (i + j, e.val))
 | [], [], i, _, _ => by simp [Instr.findNow, kfind]
 | e :: es, q :: ks, i, h, hf => by
  simp only [List.map_cons, List.cons.injEq] at h
  have h1 : Instr.sameNow d (yW p) e.key = some (p.keq q) := by
   have hq := hf q (by simp)
   rw [h.1]
   cases a <;> cases d <;> simp [KA.descIs] at ha <;> cases p <;> simp [KA.fits] at hp <;> cases q <;> simp [KA.fits] at hq <;> subst_vars <;> simp [Instr.sameNow, yW, keyV, PV.keq, zY, beq_toListBytes, yae]
  have ih := yd3 ha hp es ks (i + 1) h.2 (fun x hx => hf x (by simp [hx]))
  simp only [Instr.findNow, h1, kfind]
  cases p.keq q
  ·simp only [ih, Bool.false_eq_true, if_false]
   congr 1
   cases kfind p ks with
   | none => rfl
   | some j => simp; cases es[j]? <;> simp; omega
  ·simp
 | [], _ :: _, _, h, _ => by simp at h
 | _ :: _, [], _, h, _ => by simp at h

theorem yeR {t : TypeId} {k : KS} (hk : Zt P t k = true) (hp : k.fits p = true) (es : List MapEntry) (ks : List PV) (h : es.map (·.key) = ks.map keyV) (hf : ∀ x ∈ ks, k.fits x = true) :
  (Instr.findKey t (keyV p) es).run P w = .ok ((kfind p ks).bind fun j => (es[j]?).map fun e => (j, e.val)) w := by
 have hask := ycr (P := P) (w := w) hk hp es ks 0 h hf
 simp only [Nat.zero_add] at hask
 cases k with
 | one a =>
  simp only [Zt] at hk
  split at hk
  ·rename_i d hd
   have := yd3 hk hp es ks 0 h hf
   have e : keyV p = yW p := by cases a <;> cases p <;> simp [KS.fits, KA.fits] at hp <;> rfl
   simp only [Nat.zero_add] at this
   simp only [Instr.findKey, Sem.run_bind, run_underlying hd, Result.andThen_ok, e, this, Sem.run_pure]
  ·cases hk
 | many l =>
  simp only [Zt] at hk
  split at hk
  ·rename_i fs hd
   simp only [Instr.findKey, Sem.run_bind, run_underlying hd, Result.andThen_ok]
   cases es with
   | nil =>
    cases ks with
    | nil => simp [Instr.findNow, kfind]
    | cons => simp at h
   | cons e es => simp only [Instr.findNow, Instr.sameNow]; exact hask
  ·cases hk
end
end Go.Aw

namespace Go.Aw
open Go
def ycf (ti : TyI) : AV :=
 if ti.kind.agg then .pv (.agg ti.zero) else match ti.zero with
  | [p] => .pv p
  | _ => .junk

def yay (s : St) : AV → Option (List PV × List PV)
 | .map o => match s.σ.objs[o]? with
  | some (.map ks vs) => some (ks, vs)
  | _ => none
 | .pv (.map ks vs) => some (ks, vs)
 | .pv .nilmap => some ([], [])
 | _ => none

def okAV (ok b : Bool) (x : AV) : AV := if ok then .tuple [x, .pv (.bool b)] else x

def Z5 (ty : TyT) (kt : TypeId) (p : PV) (ks : List PV) : Bool :=
 match ty kt with
 | some tk => match tk.ks with
  | some k => k.fits p && ks.all k.fits
  | none => false
 | none => false

def Yx (ty : TyT) (s : St) (t : TypeId) (m k : AV) (ok : Bool) : Option AV :=
 match ty t with
 | some ti => match ti.kind with
  | .map kt et => match ty et, yay s m, toPV k with
   | some te, some (ks, vs), some p => match Z5 ty kt p ks with
    | true => match kfind p ks with
     | some j => (vs[j]?).map fun v => okAV ok true (.pv v)
     | none => some (okAV ok false (ycf te))
    | false => none
   | _, _, _ => none
  | _ => none
 | none => none

def kput (x v : PV) (ks vs : List PV) : List PV × List PV :=
 match kfind x ks with
 | some j => (ks, vs.set j v)
 | none => (ks ++ [x], vs ++ [v])

def yec (ty : TyT) (s : St) (t : TypeId) (m k v : AV) : Option Store :=
 match ty t with
 | some ti => match ti.kind with
  | .map kt et => match m, toPV k, toPV v with
   | .map o, some p, some q => match s.σ.objs[o]? with
    | some (.map ks vs) => match Z5 ty kt p ks with
     | true => some { s.σ with objs := s.σ.objs.set o (.map (kput p q ks vs).1 (kput p q ks vs).2) }
     | false => none
    | _ => none
   | _, _, _ => none
  | _ => none
 | none => none

section
variable {P : Program} {ty : TyT} {g0 g : Ghost} {σ0 : Store} {w0 w : World} {N : Nat} {s : St} {a : Act} {o : Oper} {x : AV} {tk : List Tok} {next : St → Prop}
theorem yjf {x : PV} : ∀ {ks : List PV} {j : Nat}, kfind x ks = some j → j < ks.length ∧ ∃ y, ks[j]? = some y ∧ x.keq y = true
 | [], _, h => by simp [kfind] at h
 | k :: ks, j, h => by
  simp only [kfind] at h
  split at h
  ·cases h; exact ⟨by simp, k, rfl, ‹_›⟩
  ·obtain ⟨i, hi, rfl⟩ := Option.map_eq_some_iff.1 h
   obtain ⟨h1, y, h2, h3⟩ := yjf hi
   exact ⟨by simp; omega, y, by simpa using h2, h3⟩

theorem TyF.map {t : TypeId} {ti : TyI} {k e : TypeId} (h : TyF P t ti) (hk : ti.kind = .map k e) : P.underlying t = some (.map k e) := by
 obtain ⟨d, h1, h2⟩ := h.und
 rw [hk] at h2; rw [h1, h2]

theorem yiV (hty : TyOk P ty) {e : TypeId} {te : TyI} (hte : ty e = some te) : ∃ z, (zeroValue e).run P w = .ok z w ∧ ∀ (g : Ghost) (tk : List Tok) (w : World), RA g tk w (ycf te) z := by
 obtain ⟨i, z, h7, h8, h9, h10, h11, h12, h13, h14⟩ := (hty _ _ hte).info
 refine ⟨z, by simp [zeroValue, typeInfo, h7, h10], fun g tk w => ?_⟩
 unfold ycf
 split
 ·exact .pv (RP.const (h13 ‹_›))
 ·obtain ⟨_, p, hp, hz⟩ := h14 (by simpa using ‹¬ te.kind.agg = true›)
  rw [hp]
  exact .pv (RP.atom hz).1

theorem yds (hty : TyOk P ty) {kt : TypeId} {p : PV} {ks : List PV} (h : Z5 ty kt p ks = true) : ∃ k, Zt P kt k = true ∧ k.fits p = true ∧ ∀ x ∈ ks, k.fits x = true := by
 unfold Z5 at h
 split at h
 ·rename_i tk htk
  split at h
  ·rename_i k hk
   simp only [Bool.and_eq_true, List.all_eq_true] at h
   exact ⟨k, (hty _ _ htk).ks k hk, h.1, h.2⟩
  ·cases h
 ·cases h

theorem ykN {B : Nat} {S : Nat → Nat → Prop} {k : KS} {ks : List PV} {es : List MapEntry} (hl : es.length = ks.length) (hf : ∀ x ∈ ks, k.fits x = true)
  (hr : ∀ (i : Nat) x (e : MapEntry), ks[i]? = some x → es[i]? = some e → RP B S w x e.key) : es.map (·.key) = ks.map keyV := by
 apply List.ext_getElem?
 intro i
 simp only [List.getElem?_map]
 by_cases hi : i < ks.length
 ·have h1 : es[i]? = some es[i] := by simp
  have h2 : ks[i]? = some ks[i] := by simp
  rw [h1, h2]
  simp only [Option.map_some]
  rw [KS.fits_val (hf _ (List.getElem_mem hi)) (hr i _ _ h2 h1)]
 ·rw [List.getElem?_eq_none (by omega), List.getElem?_eq_none (by omega)]; rfl

theorem yh8 (hty : TyOk P ty) (r : RelG g0 σ0 w0 N g s a w) {t : TypeId} {m k : AV} {mv kv : Value} {ok : Bool} (hm : RA g s.σ.toks w m mv) (hk : RA g s.σ.toks w k kv) (h : Yx ty s t m k ok = some x) :
  ∃ v, (Instr.lookup t mv kv ok).run P w = .ok v w ∧ RA g s.σ.toks w x v := by
 unfold Yx at h
 split at h
 ·rename_i ti hti
  split at h
  ·rename_i kt et hkind
   split at h
   ·rename_i te ks vs p hte hmo hpk
    split at h
    ·rename_i hok
     obtain ⟨kk, h1, h2, h3⟩ := yds hty hok
     have hkv : kv = keyV p := KS.fits_val h2 (hk.toPV hpk)
     subst hkv
     have hund := (hty _ _ hti).map hkind
     -- the map's entries
     have hes : ∃ es : List MapEntry, es.length = ks.length ∧ es.length = vs.length ∧ (∀ (i : Nat) x (e : MapEntry), ks[i]? = some x → es[i]? = some e → RP g.B g.S w x e.key) ∧ (∀ (i : Nat) x (e : MapEntry), vs[i]? = some x → es[i]? = some e → RP g.B g.S w x e.val) ∧
       (mv = .map none ∧ es = [] ∨ ∃ b clock, mv = .map (some b) ∧ w.heap[b]? = some (.map es.toArray clock)) := by
      unfold yay at hmo
      split at hmo
      ·rename_i o
       split at hmo
       ·rename_i ks' vs' hob
        cases hmo
        cases hm with
        | map hio =>
         obtain ⟨es, clock, k1, k2, k3, k4, k5, _⟩ := r.2.1.objs _ _ _ hob hio
         exact ⟨es, k2, k3, k4, k5, .inr ⟨_, _, rfl, k1⟩⟩
       ·cases hmo
      ·cases hmo
       cases hm with
       | pv hp =>
        cases hp with
        | map hb hh hk hv hkr hvr => exact ⟨_, hk, hv, hkr, hvr, .inr ⟨_, _, rfl, hh⟩⟩
      ·cases hmo
       cases hm with
       | pv hp => cases hp; exact ⟨[], rfl, rfl, fun i x e h => by simp at h, fun i x e h => by simp at h, .inl ⟨rfl, rfl⟩⟩
      ·cases hmo
     obtain ⟨es, e1, e2, e3, e4, e5⟩ := hes
     have hkeys := ykN e1 h3 e3
     have hfind := yeR (P := P) (w := w) h1 h2 es ks hkeys h3
     obtain ⟨z, hz1, hz2⟩ := yiV (P := P) (w := w) hty hte
     have hck := fun em => ydJ (P := P) (w := w) h1 em 9998 h2
     split at h
     ·rename_i j hj
      obtain ⟨v, hv, rfl⟩ := Option.map_eq_some_iff.1 h
      have hlt : j < es.length := by rw [e2]; exact (List.getElem?_eq_some_iff.1 hv).1
      have hej : es[j]? = some es[j] := by simp
      have hrp := e4 j v _ hv hej
      simp only [hj, Option.bind_some, hej, Option.map_some] at hfind
      refine ⟨if ok then .tuple #[es[j].val, .bool true] else es[j].val, ?_, ?_⟩
      ·rcases e5 with ⟨rfl, rfl⟩ | ⟨b, clock, rfl, hh⟩
       ·simp at hlt
       ·simp [Instr.lookup, run_underlying hund, MapKept.run_getObj_map hh, hck, hfind, Result.andThen]
      cases ok
      ·exact .pv hrp
      ·refine .tuple (cs := [.pv v, .pv (.bool true)]) (vs := [es[j].val, .bool true]) rfl (fun i x u hx hu => ?_)
       match i with
       | 0 => simp at hx hu; subst hx hu; exact .pv hrp
       | 1 => simp at hx hu; subst hx hu; exact YD
       | i + 2 => simp at hx
     ·rename_i hj
      cases h
      simp only [hj, Option.bind_none] at hfind
      refine ⟨if ok then .tuple #[z, .bool false] else z, ?_, ?_⟩
      ·rcases e5 with ⟨rfl, rfl⟩ | ⟨b, clock, rfl, hh⟩
       ·simp [Instr.lookup, run_underlying hund, hck, hfind, hz1, Result.andThen]
       ·simp [Instr.lookup, run_underlying hund, MapKept.run_getObj_map hh, hck, hfind, hz1, Result.andThen]
      cases ok
      ·exact hz2 _ _ _
      ·refine .tuple (cs := [ycf te, .pv (.bool false)]) (vs := [z, .bool false]) rfl (fun i x u hx hu => ?_)
       match i with
       | 0 => simp at hx hu; subst hx hu; exact hz2 _ _ _
       | 1 => simp at hx hu; subst hx hu; exact YD
       | i + 2 => simp at hx
    ·cases h
   ·cases h
  ·cases h
 ·cases h

theorem yf1 (hty : TyOk P ty) {t : TypeId} {m k : Operand} {ok : Bool} (ho : o.op = .lookup t m k ok) (h : Yx ty s t (ev s m) (ev s k) ok = some x) (hd : yJ N o.dst = true) (hn : next (s.put o.dst x)) : AOp P σ0 N o next s := by
 rintro g0 w0 a w nx Q ⟨g, r⟩ hnx
 obtain ⟨v, h1, h2⟩ := yh8 (P := P) hty r (r.ev m) (r.ev k) h
 unfold opW
 have : (execOp a.eval o).run P w = .ok (.value v) w := by
  simp only [execOp, ho, Sem.run_bind, h1, Result.andThen_ok, Sem.run_pure]
 rw [this]
 exact hnx _ _ _ hn ⟨g, r.put h2 hd⟩

theorem yeO {t : TypeId} (ho : o.op = .makeMap t none) (hd : yJ N o.dst = true)
  (hn : next (({ s with σ := { s.σ with objs := s.σ.objs ++ [.map [] []] } } : St).put o.dst (.map s.σ.objs.length))) : AOp P σ0 N o next s := by
 rintro g0 w0 a w nx Q ⟨g, r⟩ hnx
 obtain ⟨r1, f⟩ := r.alloc (.map #[] 0)
 have hb : RObj g s.σ.toks (w.alloc (.map #[] 0)) w.heap.size (.map [] []) := ⟨[], 0, zI w _, rfl, rfl, fun i x e h => by simp at h, fun i x e h => by simp at h, MapKept.stamped_empty 0⟩
 have r2 := r1.addObj f hb
 unfold opW
 have : (execOp a.eval o).run P w = .ok (.value (.map (some w.heap.size))) (w.alloc (.map #[] 0)) := by
  simp [execOp, ho, Instr.makeMap, Result.andThen]
 rw [this]
 exact hnx _ _ _ hn ⟨_, r2.put (.map (by rw [← r.2.1.lio]; simp)) hd⟩

theorem Inv.setMap {σ : Store} {L : List (List AV)} (h : Inv g σ L w) {i b : Nat} {ob' : Obj} (hb : w.heap[b]? = some ob') (hi : g.io[i]? = some b) {ks vs : List PV} {es : List MapEntry} {clock : Nat} (h1 : es.length = ks.length) (h2 : es.length = vs.length)
  (h3 : ∀ (i : Nat) x (e : MapEntry), ks[i]? = some x → es[i]? = some e → RP g.B g.S w x e.key) (h4 : ∀ (i : Nat) x (e : MapEntry), vs[i]? = some x → es[i]? = some e → RP g.B g.S w x e.val) (h5 : MapKept.Stamped es.toArray clock) :
  Inv g { σ with objs := σ.objs.set i (.map ks vs) } L (zk w b (.map es.toArray clock)) := by
 obtain ⟨le, hK⟩ := h.turn (ob := .map es.toArray clock) hb (.inl (List.mem_of_getElem? hi))
 have ap := h.apart
 have hbl : b ∈ g.io := List.mem_of_getElem? hi
 refine ⟨by simp [h.lio], h.llam, h.ltb, fun n p hp => (h.glob n p hp).mono le.keeps, h.nodup, fun c hc => by rw [yP]; exact h.low c hc, fun c hc => by rw [yP]; exact h.kept c hc, by rw [yP]; exact h.base, fun c o hS => by rw [yP]; exact h.cells c o hS, fun j ob c ho hio => ?_, fun j cs' c hL hl => ?_, fun k t tb ht htb => ?_⟩
 ·simp only [List.getElem?_set] at ho
  split at ho
  ·subst_vars
   rw [hi] at hio; cases hio
   split at ho
   ·cases ho
    exact ⟨es, clock, ZL hb, h1, h2, fun i x e hx he => (h3 i x e hx he).mono le.keeps, fun i x e hx he => (h4 i x e hx he).mono le.keeps, h5⟩
   ·cases ho
  ·refine (h.objs j ob c ho hio).mono le (fun _ _ h => h) (y3 ?_)
   rintro rfl; exact ‹¬ i = j› (Ya ap.1.1 hi hio)
 ·refine (h.priv j cs' c hL hl).mono le (fun _ _ h => h) (y3 ?_)
  rintro rfl; exact ap.2.1 _ hbl (List.mem_of_getElem? hl)
 ·obtain ⟨cur, h1, h2⟩ := h.toks k t tb ht htb
  refine ⟨cur, (y3 ?_).trans h1, h2⟩
  intro he; exact (ap.2.2 k tb htb).1 (he ▸ hbl)

theorem ybZ {l : List MapEntry} {j : Nat} {f : MapEntry → MapEntry} : l.toArray.modify j f = (l.modify j f).toArray := by
 apply Array.ext'
 simp

theorem ygg {x : PV} : ∀ {ks : List PV}, kfind x ks = none → ∀ y, y ∈ ks → x.keq y = false
 | [], _, y, hy => by simp at hy
 | k :: ks, h, y, hy => by
  simp only [kfind] at h
  split at h
  ·cases h
  ·rename_i hk
   rcases List.mem_cons.1 hy with rfl | hy
   ·simpa using hk
   ·exact ygg (by simpa using h) y hy
theorem yo8 {k : KS} {x y : PV} (hx : k.fits x = true) (hy : k.fits y = true) (h : keyV x = keyV y) : x = y := by
 have at1 : ∀ {a : KA} {x y : PV}, a.fits x = true → a.fits y = true → yW x = yW y → x = y := by
  intro a x y hx hy h
  cases a <;> cases x <;> simp only [KA.fits, Bool.false_eq_true] at hx <;> cases y <;> simp only [KA.fits, Bool.false_eq_true] at hy <;> simp [yW] at h <;> simp [h]
 have atl : ∀ {l : List KA} {ps qs : List PV}, yV l ps = true → yV l qs = true → ps.map yW = qs.map yW → ps = qs := by
  intro l
  induction l with
  | nil => intro ps qs hp hq _; cases ps <;> cases qs <;> simp [yV] at hp hq <;> rfl
  | cons a l ih =>
   intro ps qs hp hq h
   cases ps <;> cases qs <;> simp [yV] at hp hq <;> simp at h
   rw [at1 hp.1 hq.1 h.1, ih hp.2 hq.2 h.2]
 cases k with
 | one a =>
  have h1 : ∀ x, KS.fits (.one a) x = true → a.fits x = true ∧ keyV x = yW x := by
   intro x hx
   refine ⟨hx, ?_⟩
   cases a <;> cases x <;> simp [KS.fits, KA.fits] at hx <;> rfl
  exact at1 (h1 x hx).1 (h1 y hy).1 ((h1 x hx).2.symm.trans (h.trans (h1 y hy).2))
 | many l =>
  cases x <;> simp only [KS.fits, Bool.false_eq_true] at hx
  cases y <;> simp only [KS.fits, Bool.false_eq_true] at hy
  simp only [keyV, Value.agg.injEq] at h
  have h2 := congrArg Array.toList h
  simp at h2
  rw [atl hx hy (by simpa using h2)]
theorem yqj {k : KS} {p : PV} {ks : List PV} {es : List MapEntry} (hp : k.fits p = true) (hf : ∀ x ∈ ks, k.fits x = true) (hk : es.map (·.key) = ks.map keyV) (hn : kfind p ks = none) {x : MapEntry} (hx : x ∈ es) : x.key ≠ keyV p := by
 intro he
 have h1 : x.key ∈ ks.map keyV := by rw [← hk]; exact List.mem_map.2 ⟨x, hx, rfl⟩
 obtain ⟨y, hy, hye⟩ := List.mem_map.1 h1
 have h2 := yo8 (hf y hy) hp (hye.trans he)
 subst h2
 have h3 := ygg hn y hy
 rw [ynT hp] at h3; cases h3
theorem yhA (hty : TyOk P ty) (h : Inv g s.σ s.L w) {t kt et : TypeId} {ti : TyI} (hti : ty t = some ti) (hk : ti.kind = .map kt et) {i b : Nat} {ks vs : List PV} (hob : s.σ.objs[i]? = some (.map ks vs)) (hio : g.io[i]? = some b)
  {p q : PV} {qv : Value} (hok : Z5 ty kt p ks = true) (hq : RP g.B g.S w q qv) :
  ∃ (es : List MapEntry) (clock : Nat), (Instr.mapUpdate t (.map (some b)) (keyV p) qv).run P w = .ok () (zk w b (.map es.toArray clock)) ∧ (∃ ob', w.heap[b]? = some ob') ∧ es.length = (kput p q ks vs).1.length ∧ es.length = (kput p q ks vs).2.length ∧
   (∀ (i : Nat) x (e : MapEntry), (kput p q ks vs).1[i]? = some x → es[i]? = some e → RP g.B g.S w x e.key) ∧ (∀ (i : Nat) x (e : MapEntry), (kput p q ks vs).2[i]? = some x → es[i]? = some e → RP g.B g.S w x e.val) ∧ MapKept.Stamped es.toArray clock := by
 obtain ⟨kk, h1, h2, h3⟩ := yds hty hok
 obtain ⟨es, clock, e0, e1, e2, e3, e4, e5⟩ := h.objs _ _ _ hob hio
 have hund := (hty _ _ hti).map hk
 have hkeys := ykN e1 h3 e3
 have hfind := yeR (P := P) (w := w) h1 h2 es ks hkeys h3
 have hck := ydJ (P := P) (w := w) h1 false 9998 h2
 cases hj : kfind p ks with
 | some j =>
  obtain ⟨hlt, y, hy, hkq⟩ := yjf hj
  have hlt' : j < es.length := by omega
  have hej : es[j]? = some es[j] := by simp
  have hpe := yr0 hkq
  subst hpe
  have hkey : es[j].key = keyV p := KS.fits_val h2 (e3 j p _ hy hej)
  simp only [hj, Option.bind_some, hej, Option.map_some] at hfind
  refine ⟨es.modify j fun e => { e with key := keyV p, val := qv }, clock, ?_, ⟨_, e0⟩, by simp [kput, hj, e1], by simp [kput, hj, e2], fun i x e hx he => ?_, fun i x e hx he => ?_, ?_⟩
  rotate_left 3
  ·rw [← ybZ]
   refine MapKept.stamped_modify e5 j _ (fun _ _ => rfl) (fun e _ he => ?_)
   have he2 : es[j]? = some e := by simpa using he
   rw [hej] at he2; cases he2
   exact hkey.symm
  ·have hst := ylL (P := P) (w := w) h2
   simp only [Instr.mapUpdate, Sem.run_bind, run_underlying hund, Result.andThen_ok, MapKept.run_getObj_map e0, hck, hfind]
   have : ((es.toArray[j]?).map (·.key)).getD (keyV p) = keyV p := by simp [hlt', hkey]
   rw [this, hst]
   simp only [Result.andThen_ok, MapKept.run_setObj_map _ e0, ybZ, zk]
  ·simp only [kput, hj] at hx
   rw [List.getElem?_modify] at he
   split at he
   ·rename_i hji
    rw [← hji] at hx he
    rw [hej] at he; simp at he; subst he
    rw [hy] at hx; cases hx
    have := e3 j p _ hy hej
    rw [hkey] at this; exact this
   ·simp at he; exact e3 i x e hx he
  ·simp only [kput, hj] at hx
   rw [List.getElem?_modify] at he
   rw [List.getElem?_set] at hx
   split at he
   ·rename_i hji
    rw [← hji] at he
    rw [if_pos hji] at hx
    split at hx
    ·cases hx
     rw [hej] at he; simp at he; subst he
     exact hq
    ·cases hx
   ·rw [if_neg ‹_›] at hx
    simp at he; exact e4 i x e hx he
 | none =>
  simp only [hj, Option.bind_none] at hfind
  refine ⟨es ++ [⟨keyV p, qv, clock⟩], clock + 1, ?_, ⟨_, e0⟩, by simp [kput, hj, e1], by simp [kput, hj, e2], fun i x e hx he => ?_, fun i x e hx he => ?_, ?_⟩
  rotate_left 3
  ·have h9 := MapKept.stamped_push e5 (key := keyV p) (val := qv) (fun x hx => yqj h2 h3 hkeys hj (by simpa using hx))
   simpa using h9
  ·simp only [Instr.mapUpdate, Sem.run_bind, run_underlying hund, Result.andThen_ok, MapKept.run_getObj_map e0, hck, hfind, MapKept.run_setObj_map _ e0, zk]
   simp
  ·simp only [kput, hj] at hx
   rcases getElem?_snoc he with he | ⟨rfl, rfl⟩
   ·have hi : i < ks.length := by have := (List.getElem?_eq_some_iff.1 he).1; omega
    rw [List.getElem?_append_left hi] at hx
    exact e3 i x e hx he
   ·rw [e1, List.getElem?_append_right (Nat.le_refl _)] at hx
    simp at hx; subst hx
    have h5 : ∀ (B : Nat) (S : Nat → Nat → Prop), RP B S w p (keyV p) := by
     intro B S
     cases kk with
     | one a => cases a <;> cases p <;> simp [KS.fits, KA.fits] at h2 <;> constructor
     | many l =>
      cases p <;> simp only [KS.fits, Bool.false_eq_true] at h2
      rename_i ps
      have hat : ∀ {l : List KA} {ps : List PV}, yV l ps = true → ∀ (i : Nat) x v, ps[i]? = some x → (ps.map yW)[i]? = some v → RP B S w x v ∧ v.oneCell' = true := by
       intro l
       induction l with
       | nil => intro ps h; cases ps with
        | nil => intro i x v hx; simp at hx
        | cons => simp [yV] at h
       | cons a l ih => intro ps h; cases ps with
        | nil => simp [yV] at h
        | cons p ps =>
         simp only [yV, Bool.and_eq_true] at h
         intro i x v hx hv
         cases i with
         | zero =>
          simp at hx hv; subst hx hv
          cases a <;> cases p <;> simp [KA.fits] at h <;> exact ⟨by constructor, rfl⟩
         | succ i => simp at hx hv; exact ih h.2 i x v hx (by simpa using hv)
      refine .agg (by simp) (fun v hv => ?_) (fun i x v hx hv => (hat h2 i x v hx hv).1)
      obtain ⟨i, hi, rfl⟩ := List.getElem_of_mem hv
      have hi' : i < ps.length := by simpa using hi
      exact (hat h2 i ps[i] _ (by simp) (List.getElem?_eq_getElem hi)).2
    exact h5 _ _
  ·simp only [kput, hj] at hx
   rcases getElem?_snoc he with he | ⟨rfl, rfl⟩
   ·have hi : i < vs.length := by have := (List.getElem?_eq_some_iff.1 he).1; omega
    rw [List.getElem?_append_left hi] at hx
    exact e4 i x e hx he
   ·rw [e2, List.getElem?_append_right (Nat.le_refl _)] at hx
    simp at hx; subst hx
    exact hq

theorem ydh (hty : TyOk P ty) {t : TypeId} {m k v : Operand} {σ' : Store} (ho : o.op = .mapUpdate t m k v ∨ o.op = .insert t m k v) (h : yec ty s t (ev s m) (ev s k) (ev s v) = some σ') (hd : yJ N o.dst = true)
  (hn : next (({ s with σ := σ' } : St).put o.dst .junk)) : AOp P σ0 N o next s := by
 rintro g0 w0 a w nx Q ⟨g, r⟩ hnx
 unfold yec at h
 split at h
 ·rename_i ti hti
  split at h
  ·rename_i kt et hkind
   split at h
   ·rename_i i p q hm hp hq
    split at h
    ·rename_i ks vs hob
     split at h
     ·rename_i hok
      cases h
      have hmr := r.ev m
      rw [hm] at hmr
      generalize hmv : a.eval m = mv at hmr
      cases hmr with
      | map hio =>
       rename_i b
       obtain ⟨kk, h1, h2, h3⟩ := yds hty hok
       have hkv : a.eval k = keyV p := KS.fits_val h2 ((r.ev k).toPV hp)
       obtain ⟨es, clock, k1, ⟨ob', k2⟩, k3, k4, k5, k6, k7⟩ := yhA (P := P) hty r.2.1 hti hkind hob hio hok ((r.ev v).toPV hq)
       obtain ⟨le, hK⟩ := r.2.1.turn (ob := .map es.toArray clock) k2 (.inl (List.mem_of_getElem? hio))
       have hinv := r.2.1.setMap (clock := clock) k2 hio k3 k4 k5 k6 k7
       have r' := r.later (σ' := { s.σ with objs := s.σ.objs.set i (.map (kput p q ks vs).1 (kput p q ks vs).2) }) (L' := s.L) le (fun _ _ h => h) hinv rfl rfl hK (by rw [yP]; exact Nat.le_refl _) rfl rfl rfl
       unfold opW
       have : (execOp a.eval o).run P w = .ok .skip (zk w b (.map es.toArray clock)) := by
        rcases ho with ho | ho <;> simp only [execOp, ho, hmv, hkv, Sem.run_bind, k1, Result.andThen_ok, Sem.run_pure]
       rw [this]
       exact hnx _ _ _ hn ⟨g, r'.put .junk hd⟩
     ·cases h
    ·cases h
   ·cases h
  ·cases h
 ·cases h
end
end Go.Aw

namespace Go.Aw
open Go
def shD (sh : List Tmp) : Option Tmp → Bool
 | some d => sh.contains d
 | none => false

def yaq (sh : List Tmp) (s : St) (dst : Option Tmp) (cs : List AV) : Option St :=
 match shD sh dst with
 | true => match AV.noLs cs with
  | true => some (({ s with σ := { s.σ with objs := s.σ.objs ++ [.box cs] } } : St).put dst (.ptr s.σ.objs.length 0))
  | false => none
 | false => some (({ s with L := s.L ++ [cs] } : St).put dst (.lptr s.L.length 0))

def ybC (s : St) (ti : TyI) (p : AV) (ds : List AV) : Option St :=
 match p with
 | .lptr i off => match s.L[i]? with
  | some cs => if ds.length = ti.size ∧ off + ds.length ≤ cs.length then some { s with L := s.L.set i (overlay cs off ds) } else none
  | none => none
 | .ptr i off => match s.σ.objs[i]? with
  | some (.box cs) => if ds.length = ti.size ∧ off + ds.length ≤ cs.length ∧ AV.noLs ds = true then some { s with σ := { s.σ with objs := s.σ.objs.set i (.box (overlay cs off ds)) } } else none
  | some (.arr cs) => if ds.length = ti.size ∧ off + ds.length ≤ cs.length ∧ AV.noLs ds = true then some { s with σ := { s.σ with objs := s.σ.objs.set i (.arr (overlay cs off ds)) } } else none
  | _ => none
 | _ => none

def zK (s : St) (dst : Option Tmp) (e : TypeId) (te : TyI) (x : AV) (ys : List PV) : Option St :=
 if y4 te.size ys = true ∧ 0 < te.bytes then
  match x with
  | .acc xs k => match s.σ.toks[k]? with
   | some tok => if tok.n = xs.length ∧ tok.e = e ∧ tok.sz = te.size ∧ (xs.length + ys.length) * te.bytes ≤ 140737488355328 then
     some (({ s with σ := s.σ.tok k (xs.length + ys.length) } : St).put dst (.acc (xs ++ ys) k)) else none
   | none => none
  | x => match x.fullElems with
   | some xs => if y4 te.size xs = true ∧ (xs.length + ys.length) * te.bytes ≤ 140737488355328 then
     some (({ s with σ := { s.σ with toks := s.σ.toks ++ [⟨xs.length + ys.length, e, te.size⟩] } } : St).put dst (.acc (xs ++ ys) s.σ.toks.length)) else none
   | none => none
 else none

def zN : Op → Option (Operand × Operand × TypeId)
 | .call c => match c.callee with
  | .builtin .append => match c.args.toList, c.argTypes.toList with
   | [p, q], [t, u] => if t = u then some (p, q, t) else none
   | _, _ => none
  | _ => none
 | _ => none

def Zk (ty : TyT) (sh : List Tmp) (s : St) (o : Oper) : Option St :=
 match o.op with
 | .box e y => match (ev s y).cells with
  | some cs => yaq sh s o.dst cs
  | none => none
 | .alloc e => match ty e with
  | some ti => yaq sh s o.dst (ti.zero.map .pv)
  | none => none
 | .store t p y => match o.dst, ty t, (ev s y).cells with
  | none, some ti, some ds => ybC s ti (ev s p) ds
  | _, _, _ => none
 | .buildSlice t len parts => match ty t with
  | some ti => match ti.kind with
   | .slice e => match ty e with
    | some te => match Y0 te.size 0 (parts.toList.map fun q => (q.1, ev s q.2)) with
     | some ps => if ps.length = len ∧ len * te.size ≤ 16777216 then some (s.put o.dst (.full ps)) else none
     | none => none
    | none => none
   | _ => none
  | none => none
 | .call c => match zN (.call c) with
  | some (p, q, t) => match ty t with
   | some ti => match ti.kind with
    | .slice e => match ty e, (ev s q).elems with
     | some te, some ys => zK s o.dst e te (ev s p) ys
     | _, _ => none
    | _ => none
   | none => none
  | none => match Yg ty s (.call c) with
   | some x => some (s.put o.dst x)
   | none => none
 | .makeMap t none => some (({ s with σ := { s.σ with objs := s.σ.objs ++ [.map [] []] } } : St).put o.dst (.map s.σ.objs.length))
 | .lookup t m k ok => match Yx ty s t (ev s m) (ev s k) ok with
  | some x => some (s.put o.dst x)
  | none => none
 | .mapUpdate t m k v => match o.dst, yec ty s t (ev s m) (ev s k) (ev s v) with
  | none, some σ' => some { s with σ := σ' }
  | _, _ => none
 | .insert t m k v => match o.dst, yec ty s t (ev s m) (ev s k) (ev s v) with
  | none, some σ' => some { s with σ := σ' }
  | _, _ => none
 | op => match Yg ty s op with
  | some x => some (s.put o.dst x)
  | none => none

section
variable {ρ : Option Nat} {P : Program} {ty : TyT} {sh : List Tmp} {σ0 : Store} {N : Nat} {s s' : St} {o : Oper} {next : St → Prop} {ops : Array Oper} {Q : St → Prop}
theorem ybQ {op : Op} {p q : Operand} {t : TypeId} (h : zN op = some (p, q, t)) : op = .call { callee := .builtin .append, args := #[p, q], argTypes := #[t, t] } := by
 unfold zN at h
 split at h
 ·rename_i c
  obtain ⟨callee, ⟨args⟩, ⟨tys⟩⟩ := c
  simp only at h
  split at h
  ·rename_i hc
   split at h
   ·rename_i e1 e2
    split at h
    ·cases h; subst_vars; simp_all
    ·cases h
   ·cases h
  ·cases h
 ·cases h

theorem ycA (hty : TyOk P ty) (h : Zk ty sh s o = some s') (hd : yJ N o.dst = true) (hn : next s') : AOp P σ0 N o next s := by
 have pure : ∀ op, o.op = op → (match Yg ty s op with | some x => some (s.put o.dst x) | none => none) = some s' → AOp P σ0 N o next s := by
  rintro op rfl h
  split at h
  ·cases h; exact yfu hty ‹_› hd hn
  ·cases h
 have hbox : ∀ {cs : List AV}, yaq sh s o.dst cs = some s' → (AV.noLs cs = true ∧ s' = ({ s with σ := { s.σ with objs := s.σ.objs ++ [.box cs] } } : St).put o.dst (.ptr s.σ.objs.length 0)) ∨ s' = ({ s with L := s.L ++ [cs] } : St).put o.dst (.lptr s.L.length 0) := by
  intro cs h
  unfold yaq at h
  split at h
  ·split at h
   ·cases h; exact .inl ⟨‹_›, rfl⟩
   ·cases h
  ·cases h; exact .inr rfl
 unfold Zk at h
 split at h
 ·rename_i e y ho
  split at h
  ·rename_i cs hcs
   rcases hbox h with ⟨h1, rfl⟩ | rfl
   ·exact ynC ho hcs h1 hd hn
   ·exact yj7 ho hcs hd hn
  ·cases h
 ·rename_i e ho
  split at h
  ·rename_i ti hti
   rcases hbox h with ⟨h1, rfl⟩ | rfl
   ·exact yk1 hty ho hti hd hn
   ·exact yht hty ho hti hd hn
  ·cases h
 ·rename_i t p y ho
  split at h
  ·rename_i ti ds hdst hti hds
   unfold ybC at h
   split at h
   ·rename_i i off hp
    split at h
    ·rename_i cs hcs
     split at h
     ·rename_i hb
      cases h
      exact yfU hty ho hp hti hcs hds hb.1 hb.2 hd (by rw [hdst]; exact hn)
     ·cases h
    ·cases h
   ·rename_i i off hp
    split at h
    ·rename_i cs hcs
     split at h
     ·rename_i hb
      cases h
      exact yli hty ho hp hti hcs hds hb.2.2 hb.1 hb.2.1 hd (by rw [hdst]; exact hn)
     ·cases h
    ·rename_i cs hcs
     split at h
     ·rename_i hb
      cases h
      exact yaT hty ho hp hti hcs hds hb.2.2 hb.1 hb.2.1 hd (by rw [hdst]; exact hn)
     ·cases h
    ·cases h
   ·cases h
  ·cases h
 ·rename_i t len parts ho
  split at h
  ·rename_i ti hti
   split at h
   ·rename_i e hk
    split at h
    ·rename_i te hte
     split at h
     ·rename_i ps hps
      split at h
      ·rename_i hb
       cases h
       exact ycu hty ho hti hk hte hps hb.1 hb.2 hd hn
      ·cases h
     ·cases h
    ·cases h
   ·cases h
  ·cases h
 ·rename_i c ho
  split at h
  ·rename_i p q t ha
   have ha := ybQ ha
   rw [ha] at ho
   split at h
   ·rename_i ti hti
    split at h
    ·rename_i e hk
     split at h
     ·rename_i te ys hte hys
      unfold zK at h
      split at h
      ·rename_i hb
       split at h
       ·rename_i xs k hp
        split at h
        ·rename_i tok hkt
         split at h
         ·rename_i hb2
          cases h
          exact ylj hty ho hti hk hte hp hys hkt hb2.1 hb2.2.1 hb2.2.2.1 hb.1 hb.2 hb2.2.2.2 hd hn
         ·cases h
        ·cases h
       ·split at h
        ·rename_i xs hxs
         split at h
         ·rename_i hb2
          cases h
          exact yhz hty ho hti hk hte hxs hys hb2.1 hb.1 hb.2 hb2.2 hd hn
         ·cases h
        ·cases h
      ·cases h
     ·cases h
    ·cases h
   ·cases h
  ·exact pure _ ho h
 ·rename_i t ho
  cases h
  exact yeO ho hd hn
 ·rename_i t m k ok ho
  split at h
  ·cases h; exact yf1 hty ho ‹_› hd hn
  ·cases h
 ·rename_i t m k v ho
  split at h
  ·rename_i σ' hdst hput
   cases h
   exact ydh hty (.inl ho) hput hd (by rw [hdst]; exact hn)
  ·cases h
 ·rename_i t m k v ho
  split at h
  ·rename_i σ' hdst hput
   cases h
   exact ydh hty (.inr ho) hput hd (by rw [hdst]; exact hn)
  ·cases h
 ·exact pure _ rfl h

theorem ylS {i : Nat} {l : List Nat} (hty : TyOk P ty) (ho : ops[i]? = some o) (hg : o.guard = none) (hd : yJ N o.dst = true) (h : Zk ty sh s o = some s') (k : AOps P σ0 N ops Q l s') : AOps P σ0 N ops Q (i :: l) s :=
 yhd ho hg (ycA hty h hd k)

def YT (ty : TyT) (sh : List Tmp) (N : Nat) : List Oper → St → Option St
 | [], s => some s
 | o :: r, s => match o.guard with
  | none => match yJ N o.dst with
   | true => match Zk ty sh s o with
    | some s' => YT ty sh N r s'
    | none => none
   | false => none
  | some _ => none

theorem ye9 (hty : TyOk P ty) : ∀ (l : List Nat) (os : List Oper) (s s' : St), l.map (ops[·]?) = os.map some → YT ty sh N os s = some s' → ∀ (l2 : List Nat), AOps P σ0 N ops Q l2 s' → AOps P σ0 N ops Q (l ++ l2) s
 | [], os, s, s', h, hr, l2, k => by
  cases os with
  | nil => simp [YT] at hr; subst hr; exact k
  | cons => simp at h
 | i :: l, os, s, s', h, hr, l2, k => by
  cases os with
  | nil => simp at h
  | cons o os =>
   simp only [List.map_cons, List.cons.injEq] at h
   simp only [YT] at hr
   split at hr
   ·split at hr
    ·split at hr
     ·exact ylS hty h.1 ‹_› ‹_› ‹_› (ye9 hty l os _ s' h.2 hr l2 k)
     ·cases hr
    ·cases hr
   ·cases hr

theorem yD {id : Nat} {Q : Exit → St → Prop} (hty : TyOk P ty) (h : YT ty sh N ops.toList s = some s') (k : Q .normal s') : AWpR ρ P σ0 N (.region id ops false) Q s := by
 refine yfS ?_
 have := ye9 (σ0 := σ0) (N := N) (ops := ops) (Q := Q .normal) hty (List.range ops.size) ops.toList s s' (by
  apply List.ext_getElem?
  intro i
  simp only [List.getElem?_map]
  by_cases hi : i < ops.size
  ·simp [hi]
  ·rw [List.getElem?_eq_none (by simpa using hi), List.getElem?_eq_none (by simpa using hi)]; rfl) h [] (yjg k)
 simpa using this
end
end Go.Aw

namespace Go.Aw
open Go
inductive D where
 | mk (kind num : Int) (text : ByteArray) (kids : List D)

def D.kind : D → Int | .mk k _ _ _ => k
def D.num : D → Int | .mk _ n _ _ => n
def D.text : D → ByteArray | .mk _ _ t _ => t
def D.kids : D → List D | .mk _ _ _ l => l

mutual
def enc : D → PV
 | .mk k n t l => .agg [.int .i64 k, .int .i64 n, .str t, .slice (encs l)]
def encs : List D → List PV
 | [] => []
 | d :: l => enc d :: encs l
end
theorem yi7 : ∀ l : List D, encs l = l.map enc
 | [] => rfl
 | d :: l => by simp [encs, yi7 l]

theorem yaM (d : D) : enc d = .agg [.int .i64 d.kind, .int .i64 d.num, .str d.text, .slice (d.kids.map enc)] := by
 cases d; simp [enc, yi7, D.kind, D.num, D.text, D.kids]

theorem zQ (d : D) : (enc d).cells = [.int .i64 d.kind, .int .i64 d.num, .str d.text, .slice (d.kids.map enc)] := by
 rw [yaM]; rfl

theorem yhg (l : List D) : y4 4 (l.map enc) = true := by
 simp [y4, zQ]

theorem D.ind {p : D → Prop} (h : ∀ k n t l, (∀ d, d ∈ l → p d) → p (.mk k n t l)) : ∀ d, p d := by
 intro d
 exact D.rec (motive_1 := p) (motive_2 := fun l => ∀ d, d ∈ l → p d) (fun k n t l ih => h k n t l ih) (by simp) (fun d l h1 h2 => by
  intro x hx
  rcases List.mem_cons.1 hx with rfl | hx
  ·exact h1
  ·exact h2 x hx) d
end Go.Aw
namespace Go.Aw
open Go
theorem ypG (d : D) : PV.agg [.int .i64 d.kind, .int .i64 d.num, .str d.text, .slice (d.kids.map enc)] = enc d := (yaM d).symm
theorem ymK (d : D) : (AV.pv (enc d)).cells = some [.pv (.int .i64 d.kind), .pv (.int .i64 d.num), .pv (.str d.text), .pv (.slice (d.kids.map enc))] := by
 rw [yfr, zQ]; rfl
end Go.Aw
namespace Go.Aw
open Go
mutual
def D.size : D → Nat
 | .mk _ _ _ l => 1 + D.sizes l
def D.sizes : List D → Nat
 | [] => 0
 | d :: l => d.size + D.sizes l
end
theorem D.size_pos (d : D) : 0 < d.size := by cases d; simp [D.size]; omega
theorem D.length_le_sizes : ∀ l : List D, l.length ≤ D.sizes l
 | [] => by simp [D.sizes]
 | d :: l => by have := D.length_le_sizes l; have := d.size_pos; simp [D.sizes]; omega
theorem D.size_le_sizes : ∀ {l : List D} {d : D}, d ∈ l → d.size ≤ D.sizes l
 | x :: l, d, h => by
  rcases List.mem_cons.1 h with rfl | h
  ·simp [D.sizes]
  ·have := D.size_le_sizes h; simp [D.sizes]; omega
theorem D.size_kids (d : D) : d.size = 1 + D.sizes d.kids := by cases d; rfl
theorem D.kids_length_lt (d : D) : d.kids.length < d.size := by have := D.length_le_sizes d.kids; rw [D.size_kids]; omega
theorem D.size_kid_lt {d k : D} (h : k ∈ d.kids) : k.size < d.size := by have := D.size_le_sizes h; rw [D.size_kids d]; omega
end Go.Aw

namespace Go.Aw
open Go
section
variable {ρ : Option Nat} {P : Program} {ty : TyT} {σ0 : Store} {N : Nat} {s s' : St} {Q : Exit → St → Prop}
theorem yl {id : Nat} (h : Q .normal s) : yu id Q (.exit id) s := by simp only [yu, if_true]; exact h
theorem yic {id id' : Nat} (hne : id' ≠ id) (h : Q (.exit id') s) : yu id Q (.exit id') s := by simp only [yu, if_neg hne]; exact h

theorem yj {next : St → Prop} {id : Nat} (h : Q (.exit id) s) : Then next Q (.exit id) s := h
theorem yf {next : St → Prop} (h : Q .ret s) : Then next Q .ret s := h
theorem yi {id : Nat} (h : Q .ret s) : yu id Q .ret s := h
theorem ybe {rs : List ResultVar} {R : AV → Store → Prop} {l : List AV} (h : Y4 ty s rs = some l) (hn : AV.noLs l = true) (k : R (yaz l) s.σ) : Ends ty rs R .ret s := ⟨l, h, hn, k⟩
theorem yz {rs : List ResultVar} {R : AV → Store → Prop} {l : List AV} (h : Y4 ty s rs = some l) (hn : AV.noLs l = true) (k : R (yaz l) s.σ) : Ends ty rs R .normal s := ⟨l, h, hn, k⟩

def Next {ι : Type} (σ0 : Store) (S : ι → St) (I : ι → Prop) (μ : ι → Nat) (i : ι) (s' : St) : Prop :=
 ∃ j, I j ∧ μ j < μ i ∧ ∃ no nt nl, Weak σ0 no nt nl s' (S j)

theorem ydq {c : Code} {ι : Type} (S : ι → St) (I : ι → Prop) (μ : ι → Nat) (i0 : ι) (hi0 : I i0) {no nt nl : Nat} (h0 : Weak σ0 no nt nl s (S i0))
  (round : ∀ i, I i → AWpR ρ P σ0 N c (Then (Next σ0 S I μ i) Q) (S i)) : AWpR ρ P σ0 N (.loop c) Q s := by
 rintro g0 w0 a w ⟨g, r⟩ b k cs hro hb hr
 have key : ∀ n i, μ i = n → I i → ∀ a w, Rel g0 σ0 w0 N (S i) a w →
   ∃ e a' w', lift g0 σ0 w0 N Q e a' w' ∧ ArrivesIn (Machine.fenced P (wF ρ)) P (lone (b.atR a (.code c :: .inLoop c :: k)) cs w) b k cs e a' w' := by
  intro n
  induction n using Nat.strongRecOn with
  | _ n ih =>
   intro i hn hI a w r
   obtain ⟨e, a₁, w₁, ⟨s₁, hq, r₁⟩, harr⟩ := round i hI g0 w0 a w r b (.inLoop c :: k) cs hro hb hr
   cases e with
   | normal =>
    obtain ⟨j, hj, hlt, no, nt, nl, hw⟩ := hq
    obtain ⟨g₁, r₁⟩ := r₁
    obtain ⟨e₂, a₂, w₂, hq₂, harr₂⟩ := ih (μ j) (hn ▸ hlt) j rfl hj a₁ w₁ ⟨_, hw.rel r₁⟩
    exact ⟨e₂, a₂, w₂, hq₂, .of_steps (StepsIn.trans harr (.one (fenced_calm hb hr rfl) stepR_inLoop)) harr₂⟩
   | exit id => exact ⟨_, a₁, w₁, ⟨s₁, hq, r₁⟩, .pass (x := .inLoop c) rfl (fun _ _ => .inl (by simp)) harr⟩
   | goto l => exact ⟨_, a₁, w₁, ⟨s₁, hq, r₁⟩, .pass (x := .inLoop c) rfl (fun _ _ => .inl (by simp)) harr⟩
   | ret => exact ⟨_, a₁, w₁, ⟨s₁, hq, r₁⟩, .pass (x := .inLoop c) rfl (fun _ _ => .inl (by simp)) harr⟩
   | panic ch => exact ⟨_, a₁, w₁, ⟨s₁, hq, r₁⟩, .pass (x := .inLoop c) rfl (fun _ _ => .inl (by simp)) harr⟩
   | outgrown => exact ⟨_, a₁, w₁, ⟨s₁, hq, r₁⟩, .pass (x := .inLoop c) rfl (fun _ _ => .inl (by simp)) harr⟩
 obtain ⟨e, a', w', hq, harr⟩ := key _ i0 rfl hi0 a w ⟨_, h0.rel r⟩
 exact ⟨e, a', w', hq, .of_steps (.one (fenced_calm hb hr rfl) stepR_loop) harr⟩

theorem ylX {c : Code} (d : Nat) {xs : List PV} (e : TypeId) (sz : Nat) (hx : (get s.T d).fullElems = some xs) (hs : y4 sz xs = true)
  (k : AWpR ρ P σ0 N c Q { s with T := (d, .acc xs s.σ.toks.length) :: s.T, σ := { s.σ with toks := s.σ.toks ++ [⟨xs.length, e, sz⟩] } }) : AWpR ρ P σ0 N c Q s := by
 rintro g0 w0 a w ⟨g, r⟩
 obtain ⟨i1, le1⟩ := r.2.1.adopt ⟨xs.length, e, sz⟩
 have hv := (r.2.2.2.2 d).adopt hx r.2.1 ⟨xs.length, e, sz⟩ rfl (by simpa [y4] using hs)
 have r' := r.later (σ' := { s.σ with toks := s.σ.toks ++ [⟨xs.length, e, sz⟩] }) (L' := s.L) le1 (fun _ _ h => h) i1 rfl rfl (fun _ _ => rfl) (Nat.le_refl _) rfl rfl rfl
 refine k g0 w0 a w ⟨_, r'.1, r'.2.1, r'.2.2.1, r'.2.2.2.1, fun t => ?_⟩
 simp only [get]
 split
 ·subst_vars; exact hv
 ·exact r'.2.2.2.2 t

def ygB (s : St) (d : Nat) (e : TypeId) (sz : Nat) : Option St :=
 match (get s.T d).fullElems with
 | some xs => if y4 sz xs = true then some ⟨(d, .acc xs s.σ.toks.length) :: s.T, s.L, { s.σ with toks := s.σ.toks ++ [⟨xs.length, e, sz⟩] }⟩ else none
 | none => none

theorem zF {c : Code} (d : Nat) (e : TypeId) (sz : Nat) (h : ygB s d e sz = some s') (k : AWpR ρ P σ0 N c Q s') : AWpR ρ P σ0 N c Q s := by
 unfold ygB at h
 split at h
 ·split at h
  ·cases h; exact ylX d e sz ‹_› ‹_› k
  ·cases h
 ·cases h

def yfP (seen : List Nat) : List (Nat × AV) → List (Nat × AV)
 | [] => []
 | p :: r => if seen.contains p.1 then yfP seen r else p :: yfP (p.1 :: seen) r

def ypa (mods : List (Nat × AV)) (T : List (Nat × AV)) : List (Nat × AV) := mods ++ yfP (mods.map (·.1)) T

def head (s : St) (m : List (Nat × AV)) (L : List (List AV)) (σ : Store) : St := ⟨ypa m s.T, L, σ⟩

def YI (s : St) (keep : List Nat) (m : List (Nat × AV)) (L : List (List AV)) (σ : Store) : St := ⟨m ++ keep.map fun t => (t, get s.T t), L, σ⟩

theorem yq {c : Code} {ι : Type} (no nt nl : Nat) (keep : List Nat) (m : ι → List (Nat × AV)) (σf : ι → Store) (I : ι → Prop) (μ : ι → Nat) (i0 : ι) (hi0 : I i0) (h0 : Weak σ0 no nt nl s (YI s keep (m i0) s.L (σf i0)))
  (round : ∀ i, I i → AWpR ρ P σ0 N c (Then (Next σ0 (fun i => YI s keep (m i) s.L (σf i)) I μ i) Q) (YI s keep (m i) s.L (σf i))) : AWpR ρ P σ0 N (.loop c) Q s :=
 ydq (fun i => YI s keep (m i) s.L (σf i)) I μ i0 hi0 h0 round

theorem yx {ι : Type} {S : ι → St} {I : ι → Prop} {μ : ι → Nat} {i : ι} (j : ι) (no nt nl : Nat) (h1 : I j) (h2 : μ j < μ i) (h3 : Weak σ0 no nt nl s' (S j)) : Next σ0 S I μ i s' := ⟨j, h1, h2, no, nt, nl, h3⟩

section wv
variable {no nt nl o o' a b k j : Nat} {x : AV} {p q : PV} {xs ys : List PV} {cs ds : List AV} {f f' : Fn}
theorem ypo : WV no nt nl x .junk ↔ True := ⟨fun _ => trivial, fun _ => .junk⟩
theorem ysv : WV no nt nl (.pv p) (.pv q) ↔ p = q ∨ p.nrm = q ∨ (p = .nils ∧ q = .slice []) := by
 constructor
 ·intro h
  cases h with
  | same => exact .inl rfl
  | pv h => simp [toPV, zG] at h; exact .inr (.inl h)
  | nils => exact .inr (.inr ⟨rfl, rfl⟩)
 ·rintro (rfl | rfl | ⟨rfl, rfl⟩)
  ·exact .same rfl
  ·exact .pv (by simp [toPV, zG])
  ·exact .nils
theorem yqy : WV no nt nl (.full xs) (.full ys) ↔ xs = ys := ⟨fun h => by cases h; rfl, fun h => by subst h; exact .same rfl⟩
theorem ynj : WV no nt nl (.full xs) (.pv q) ↔ q = .slice xs := ⟨fun h => by cases h with | pv h => simp [toPV, zG, PV.nrm] at h; exact h.symm, fun h => by subst h; exact .pv rfl⟩
theorem ynV : WV no nt nl (.acc xs k) (.pv q) ↔ q = .slice xs := ⟨fun h => by cases h with | pv h => simp [toPV, zG, PV.nrm] at h; exact h.symm, fun h => by subst h; exact .pv rfl⟩
theorem yoB : WV no nt nl (.agg cs) (.pv q) ↔ toPV (.agg cs) = some q := ⟨fun h => by cases h with | pv h => exact h, fun h => .pv h⟩
theorem yrA : WV no nt nl (.acc xs k) (.acc ys j) ↔ xs = ys ∧ k = j ∧ j < nt := ⟨fun h => by cases h with | same h => exact ⟨rfl, rfl, by simpa [AV.clo] using h⟩, fun ⟨h1, h2, h3⟩ => by subst h1 h2; exact .same (by simpa [AV.clo] using h3)⟩
theorem yq5 : WV no nt nl (.ptr o a) (.ptr o' b) ↔ o = o' ∧ a = b ∧ o' < no := ⟨fun h => by cases h with | same h => exact ⟨rfl, rfl, by simpa [AV.clo] using h⟩, fun ⟨h1, h2, h3⟩ => by subst h1 h2; exact .same (by simpa [AV.clo] using h3)⟩
theorem yqa : WV no nt nl (.lptr o a) (.lptr o' b) ↔ o = o' ∧ a = b ∧ o' < nl := ⟨fun h => by cases h with | same h => exact ⟨rfl, rfl, by simpa [AV.clo] using h⟩, fun ⟨h1, h2, h3⟩ => by subst h1 h2; exact .same (by simpa [AV.clo] using h3)⟩
theorem yrW : WV no nt nl (.map o) (.map o') ↔ o = o' ∧ o' < no := ⟨fun h => by cases h with | same h => exact ⟨rfl, by simpa [AV.clo] using h⟩, fun ⟨h1, h3⟩ => by subst h1; exact .same (by simpa [AV.clo] using h3)⟩
theorem yqF : WV no nt nl (.func f cs) (.func f' ds) ↔ f = f' ∧ cs = ds ∧ AV.clos no nt nl ds = true := ⟨fun h => by cases h with | same h => exact ⟨rfl, rfl, by simpa [AV.clo] using h⟩, fun ⟨h1, h2, h3⟩ => by subst h1 h2; exact .same (by simpa [AV.clo] using h3)⟩
theorem yq3 {n m cap cap' : Nat} : WV no nt nl (.scr o n cap) (.scr o' m cap') ↔ o = o' ∧ n = m ∧ cap = cap' ∧ (o' < no ∨ cap' = 0) := ⟨fun h => by cases h with | same h => exact ⟨rfl, rfl, rfl, by simpa [AV.clo] using h⟩, fun ⟨h1, h2, h3, h4⟩ => by subst h1 h2 h3; exact .same (by simpa [AV.clo] using h4)⟩
theorem ysB {n m f h : Nat} : WV no nt nl (.sl o f n) (.sl o' h m) ↔ o = o' ∧ f = h ∧ n = m ∧ o' < no := ⟨fun h => by cases h with | same h => exact ⟨rfl, rfl, rfl, by simpa [AV.clo] using h⟩, fun ⟨h1, h2, h3, h4⟩ => by subst h1 h2 h3; exact .same (by simpa [AV.clo] using h4)⟩
theorem ylU {n cap : Nat} : WV no nt nl (.pv p) (.scr o n cap) ↔ p = .nils ∧ n = 0 ∧ cap = 0 := ⟨fun h => by cases h; exact ⟨rfl, rfl, rfl⟩, fun ⟨h1, h2, h3⟩ => by subst h1 h2 h3; exact .nilscr⟩
theorem yoZ : WV no nt nl (.tuple cs) (.tuple ds) ↔ cs = ds ∧ AV.clos no nt nl ds = true := ⟨fun h => by cases h with | same h => exact ⟨rfl, by simpa [AV.clo] using h⟩, fun ⟨h2, h3⟩ => by subst h2; exact .same (by simpa [AV.clo] using h3)⟩
theorem yrD : WV no nt nl (.agg cs) (.agg ds) ↔ cs = ds ∧ AV.clos no nt nl ds = true := ⟨fun h => by cases h with | same h => exact ⟨rfl, by simpa [AV.clo] using h⟩, fun ⟨h2, h3⟩ => by subst h2; exact .same (by simpa [AV.clo] using h3)⟩
end wv
def AOpsL (P : Program) (σ0 : Store) (N : Nat) (ops : Array Oper) (os : List Oper) (Q : St → Prop) (s : St) : Prop :=
 ∀ l : List Nat, l.map (ops[·]?) = os.map some → AOps P σ0 N ops Q l s

section ops
variable {ops : Array Oper} {os : List Oper} {o : Oper} {K : St → Prop} {sh : List Tmp}
theorem yS {id : Nat} (h : AOpsL P σ0 N ops ops.toList (Q .normal) s) : AWpR ρ P σ0 N (.region id ops false) Q s := by
 refine yfS (h _ ?_)
 apply List.ext_getElem?
 intro i
 simp only [List.getElem?_map]
 by_cases hi : i < ops.size
 ·simp [hi]
 ·rw [List.getElem?_eq_none (by simpa using hi), List.getElem?_eq_none (by simpa using hi)]; rfl

theorem ye (h : K s) : AOpsL P σ0 N ops [] K s := by
 intro l hl
 have : l = [] := by simpa using hl
 subst this
 exact yjg h

theorem Zx (n : Nat) (hty : TyOk P ty) (h : YT ty sh N (os.take n) s = some s') (k : AOpsL P σ0 N ops (os.drop n) K s') : AOpsL P σ0 N ops os K s := by
 intro l hl
 have h1 : (l.take n).map (ops[·]?) = (os.take n).map some := by rw [List.map_take, hl, List.map_take]
 have h2 : (l.drop n).map (ops[·]?) = (os.drop n).map some := by rw [List.map_drop, hl, List.map_drop]
 have := ye9 (σ0 := σ0) (Q := K) hty (l.take n) (os.take n) s s' h1 h (l.drop n) (k _ h2)
 rwa [List.take_append_drop] at this

theorem YC (hg : o.guard = none) (h : AOp P σ0 N o (AOpsL P σ0 N ops os K) s) : AOpsL P σ0 N ops (o :: os) K s := by
 intro l hl
 cases l with
 | nil => simp at hl
 | cons i l =>
  simp only [List.map_cons, List.cons.injEq] at hl
  exact yhd hl.1 hg (h.mono fun s' k => k l hl.2)

theorem yqf {c : Call} {fo : Operand} {f : FuncId} {caps args : List AV} {R : AV → Store → Prop} (hg : o.guard = none) (ho : o.op = .call c) (hc : c.callee = .value fo) (hf : ev s fo = .func (.func f) caps) (hca : Callable P f)
  (hargs : c.args.toList.map (ev s) ++ caps = args) (hnl : AV.noLs args = true) (hd : yJ N o.dst = true) (h : ACalls P f args s.σ R) (k : ∀ r σ', R r σ' → AOpsL P σ0 N ops os K (({ s with σ := σ' } : St).put o.dst r)) : AOpsL P σ0 N ops (o :: os) K s := by
 subst hargs
 exact YC hg (ycE ho hc hf hca hnl hd (h.mono k))

def YR (ops : Array Oper) (d : Tmp) (want : Bool) (os : List Oper) : Bool := os.all fun o => y9 ops o == some (d, want)

def yal : List Oper → St → St
 | [], s => s
 | o :: r, s => yal r (s.put o.dst (.tuple []))

def Zq (N : Nat) (os : List Oper) : Bool := os.all fun o => yJ N o.dst

theorem ydd {dst : Option Tmp} {x : AV} {d : Tmp} (h : dst ≠ some d) : get (s.put dst x).T d = get s.T d := by
 cases dst with
 | none => rfl
 | some e => simp only [St.put, get]; rw [if_neg (fun he => h (by rw [he]))]

theorem yp1 (n : Nat) (d : Tmp) (want : Bool) (hb : off (get s.T d) want = true) (hg : YR ops d want (os.take n) = true) (hd : Zq N (os.take n) = true) (hne : (os.take n).all (fun o => o.dst != some d) = true)
  (k : AOpsL P σ0 N ops (os.drop n) K (yal (os.take n) s)) : AOpsL P σ0 N ops os K s := by
 induction n generalizing os s with
 | zero => simpa [yal] using k
 | succ n ih =>
  cases os with
  | nil => simpa [yal] using k
  | cons o os =>
   simp only [List.take_succ_cons, List.drop_succ_cons, YR, Zq, List.all_cons, Bool.and_eq_true, yal] at *
   intro l hl
   cases l with
   | nil => simp at hl
   | cons i l =>
    simp only [List.map_cons, List.cons.injEq] at hl
    refine yhn hl.1 (by simpa using hg.1) hb hd.1 ?_
    exact ih (s := s.put o.dst (.tuple [])) (by rw [ydd (by simpa using hne.1)]; exact hb) hg.2 hd.2 hne.2 k l hl.2

theorem ygT (d : Tmp) (b want : Bool) (hb : get s.T d = .pv (.bool b)) (hbw : b = want) (hg : y9 ops o = some (d, want)) (hd : yJ N o.dst = true) (k : AOp P σ0 N o (AOpsL P σ0 N ops os K) s) : AOpsL P σ0 N ops (o :: os) K s := by
 intro l hl
 cases l with
 | nil => simp at hl
 | cons i l =>
  simp only [List.map_cons, List.cons.injEq] at hl
  exact yls hl.1 hg hb hd (fun _ => k.mono fun s' k => k l hl.2) (fun e => by subst hbw; cases b <;> simp at e)

def runG (ty : TyT) (sh : List Tmp) : List Oper → St → Option St
 | [], s => some s
 | o :: r, s => match Zk ty sh s o with
  | some s' => runG ty sh r s'
  | none => none

theorem ylr {d : Tmp} {o : Oper} (h : Zk ty sh s o = some s') (hd : o.dst ≠ some d) : get s'.T d = get s.T d := by
 have hp : ∀ (s1 : St) (x : AV), s1.T = s.T → get (s1.put o.dst x).T d = get s.T d := fun s1 x e => by rw [ydd hd, e]
 have hbox : ∀ {cs : List AV}, yaq sh s o.dst cs = some s' → get s'.T d = get s.T d := by
  intro cs h
  unfold yaq at h
  split at h
  ·split at h
   ·cases h; exact hp _ _ rfl
   ·cases h
  ·cases h; exact hp _ _ rfl
 have pure : ∀ op, (match Yg ty s op with | some x => some (s.put o.dst x) | none => none) = some s' → get s'.T d = get s.T d := by
  intro op h
  split at h
  ·cases h; exact hp _ _ rfl
  ·cases h
 unfold Zk at h
 split at h
 ·split at h
  ·exact hbox h
  ·cases h
 ·split at h
  ·exact hbox h
  ·cases h
 ·split at h
  ·unfold ybC at h
   split at h
   ·split at h
    ·split at h
     ·cases h; rfl
     ·cases h
    ·cases h
   ·split at h
    ·split at h
     ·cases h; rfl
     ·cases h
    ·split at h
     ·cases h; rfl
     ·cases h
    ·cases h
   ·cases h
  ·cases h
 ·split at h
  ·split at h
   ·split at h
    ·split at h
     ·split at h
      ·cases h; exact hp _ _ rfl
      ·cases h
     ·cases h
    ·cases h
   ·cases h
  ·cases h
 ·split at h
  ·split at h
   ·split at h
    ·split at h
     ·unfold zK at h
      split at h
      ·split at h
       ·split at h
        ·split at h
         ·cases h; exact hp _ _ rfl
         ·cases h
        ·cases h
       ·split at h
        ·split at h
         ·cases h; exact hp _ _ rfl
         ·cases h
        ·cases h
      ·cases h
     ·cases h
    ·cases h
   ·cases h
  ·exact pure _ h
 ·cases h; exact hp _ _ rfl
 ·split at h
  ·cases h; exact hp _ _ rfl
  ·cases h
 ·split at h
  ·cases h; rfl
  ·cases h
 ·split at h
  ·cases h; rfl
  ·cases h
 ·exact pure _ h

theorem yqD (n : Nat) (d : Tmp) (b want : Bool) (hty : TyOk P ty) (hb : get s.T d = .pv (.bool b)) (hbw : b = want) (hg : YR ops d want (os.take n) = true) (hd : Zq N (os.take n) = true) (hne : (os.take n).all (fun o => o.dst != some d) = true)
  (h : runG ty sh (os.take n) s = some s') (k : AOpsL P σ0 N ops (os.drop n) K s') : AOpsL P σ0 N ops os K s := by
 induction n generalizing os s with
 | zero => simp [runG] at h; subst h; simpa using k
 | succ n ih =>
  cases os with
  | nil => simp [runG] at h; subst h; simpa using k
  | cons o os =>
   simp only [List.take_succ_cons, List.drop_succ_cons, YR, Zq, List.all_cons, Bool.and_eq_true, runG] at *
   split at h
   ·rename_i s1 hs1
    refine ygT d b want hb hbw (by simpa using hg.1) hd.1 (ycA hty hs1 hd.1 ?_)
    exact ih (s := s1) (by rw [ylr hs1 (by simpa using hne.1)]; exact hb) hg.2 hd.2 hne.2 h k
   ·cases h

end ops
end
end Go.Aw
namespace Go.Aw
open Go
section
variable {cs : List AV} {ps xs : List PV} {k o a : Nat} {fn : Fn}
@[go_sem] theorem ysR : (AV.agg cs).cells = some cs := rfl
@[go_sem] theorem ysh : (AV.pv (.agg ps)).cells = some (ps.map .pv) := rfl
@[go_sem] theorem ysK {j : IntKind} {n : Int} : (AV.pv (.int j n)).cells = some [.pv (.int j n)] := rfl
@[go_sem] theorem yst {b : Bool} : (AV.pv (.bool b)).cells = some [.pv (.bool b)] := rfl
@[go_sem] theorem ysW {b : ByteArray} : (AV.pv (.str b)).cells = some [.pv (.str b)] := rfl
@[go_sem] theorem ysf : (AV.pv (.slice xs)).cells = some [.pv (.slice xs)] := rfl
@[go_sem] theorem ysp : (AV.pv .nils).cells = some [.pv .nils] := rfl
@[go_sem] theorem yr2 : (AV.pv .nilmap).cells = some [.pv .nilmap] := rfl
@[go_sem] theorem ysk : (AV.pv .nilfn).cells = some [.pv .nilfn] := rfl
@[go_sem] theorem ysm : (AV.full xs).cells = some [.full xs] := rfl
@[go_sem] theorem ysN : (AV.acc xs k).cells = some [.acc xs k] := rfl
@[go_sem] theorem ys2 {n : Nat} : (AV.sl o a n).cells = some [.sl o a n] := rfl
@[go_sem] theorem ysU : (AV.ptr o a).cells = some [.ptr o a] := rfl
@[go_sem] theorem ysC : (AV.lptr o a).cells = some [.lptr o a] := rfl
@[go_sem] theorem ysI : (AV.map o).cells = some [.map o] := rfl
@[go_sem] theorem ysH : (AV.func fn cs).cells = some [.func fn cs] := rfl
end
theorem yly {l r : List Tok} {t : Tok} {f : Tok → Tok} : (l ++ t :: r).modify l.length f = l ++ f t :: r := by
 induction l with
 | nil => rfl
 | cons a l ih => simp [ih]
theorem yoE {α : Type} {l r : List α} {n : Nat} : (l ++ r).take (l.length + n) = l ++ r.take n := by
 rw [List.take_append, List.take_of_length_le (by omega)]; simp
theorem yma {sz : Nat} : y4 sz [] = true := rfl
theorem ylA {sz : Nat} {x : PV} {l : List PV} : y4 sz (x :: l) = (x.cells.length == sz && y4 sz l) := rfl
theorem yiE {sz : Nat} {l r : List PV} : y4 sz (l ++ r) = (y4 sz l && y4 sz r) := by simp [y4]
attribute [go_sem] ZN yac yq3 ysB ylU YI yoZ yfP PV.nrm nrm0 off runG yal YR Zq y9 YT Zk yaq ybC zK zN Yg ev Aw.get St.put shD yJ AV.elems AV.fullElems AV.one yhZ ygl ygj ygc yfA yfV yd0 zb Yi intOf? yef Y7 yje yhY yhX yh3 yaw yaU yk9 ya2 Z8 overlay argT Y0 toPV zG AV.noLs AV.noL AV.isNil TyK.agg zQ yhg YU ymK ypG ygB ypa head ypo ysv yqy ynj ynV yoB yrA yq5 yqa yrW yqF yrD yly yoE ylA yma yiE AV.clo AV.clos Y4 Store.cut Store.tok yaz AObj.clo
theorem yO {n : Int} (h0 : -9223372036854775808 ≤ n) (h1 : n ≤ 9223372036854775807) : IntKind.i64.wrap n = n := by
 have e1 : (2 : Int) ^ 64 = 18446744073709551616 := by decide
 have e2 : (2 : Int) ^ 63 = 9223372036854775808 := by decide
 simp only [IntKind.wrap, IntKind.bits, IntKind.signed, e1, e2, show (64 - 1) = 63 from rfl, Bool.true_and, decide_eq_true_eq]
 split <;> omega
theorem yv {n : Nat} (h1 : n ≤ 9223372036854775806) : IntKind.i64.wrap (↑n + 1) = (n : Int) + 1 := yO (by omega) (by omega)
theorem yI {α : Type} {l : List α} {k : Nat} {x : α} (h : l[k]? = some x) : l.take (k + 1) = l.take k ++ [x] := by
 rw [List.take_add_one, h]; rfl
theorem ym {α : Type} {l : List α} {k : Nat} (h : k < l.length) : ∃ x, l[k]? = some x ∧ x ∈ l := ⟨l[k], by simp [h], List.getElem_mem _⟩
theorem yi8 {n : Nat} (h1 : n ≤ 9223372036854775806) : IntKind.i64.wrap (↑n + 1) = ((n + 1 : Nat) : Int) := by
 rw [yO (by omega) (by omega)]; omega
end Go.Aw

namespace Go.Aw
open Go
def PathAt (σ : Store) (x : AV) (n : Nat) : Prop :=
 (∃ o, x = .scr o 0 0 ∧ n = 0) ∨ ∃ o cap, x = .scr o n cap ∧ n ≤ cap ∧ 0 < cap ∧ σ.objs[o]? = some (.box (List.replicate cap .junk))

section
variable {P : Program} {ty : TyT} {g0 g : Ghost} {σ0 : Store} {w0 w : World} {N : Nat} {s : St} {a : Act} {o : Oper} {x : AV} {next : St → Prop} {tk : List Tok} {ops : Array Oper} {os : List Oper} {K : St → Prop}
theorem yeH {cap : Nat} {vs : List Value} (hl : vs.length = cap) (h1 : ∀ v, v ∈ vs → v.oneCell' = true) : RCells g tk w (List.replicate cap .junk) vs := by
 refine ⟨by simp [hl], h1, fun i x v hx hv => ?_⟩
 have : x = .junk := by
  have := List.mem_of_getElem? hx
  exact List.eq_of_mem_replicate this
 subst this; exact .junk

theorem ykm (r : RelG g0 σ0 w0 N g s a w) (hd : yJ N o.dst = true) {vs : List Value} (h1 : ∀ v, v ∈ vs → v.oneCell' = true) (e : TypeId) {n : Nat} (hn : n ≤ vs.length) (h0 : 0 < vs.length) :
  ∃ g', RelG g0 σ0 w0 N g' (({ s with σ := { s.σ with objs := s.σ.objs ++ [.box (List.replicate vs.length .junk)] } } : St).put o.dst (.scr s.σ.objs.length n vs.length)) (a.put o.dst (.slice (some ⟨w.heap.size, 0, none⟩) n vs.length)) (w.drew.alloc (.cells vs.toArray e)) := by
 have k := r.2.1.drewN (w' := w.drew) rfl
 have r1 : RelG g0 σ0 w0 N g s a w.drew := r.later (σ' := s.σ) (L' := s.L) k.2 (fun _ _ h => h) k.1 rfl rfl (fun _ _ => rfl) (Nat.le_refl _) rfl rfl rfl
 obtain ⟨g', r2, hp⟩ := ybN r1 (cs := List.replicate vs.length .junk) (vs := vs) (yeH rfl h1) (fun x hx => by rw [List.eq_of_mem_replicate hx]; rfl) e
 have hio : g'.io[s.σ.objs.length]? = some w.heap.size := by
  cases hp with
  | ptr h => exact h
 exact ⟨g', r2.put (.scr hio hn h0) hd⟩

theorem ydb {z : Value} (hz : z.cells.all (·.oneCell') = true) (k : Nat) : ∀ v, v ∈ (Builtin.zeroCells z.cells k).toList → v.oneCell' = true := by
 intro v hv
 simp only [Builtin.zeroCells, Array.toList_map, Array.toList_range, List.mem_map, List.mem_range] at hv
 obtain ⟨i, hi, rfl⟩ := hv
 have hpos : 0 < z.cells.size := by
  rcases Nat.eq_zero_or_pos z.cells.size with h | h
  ·rw [h] at hi; simp at hi
  ·exact h
 have hlt := Nat.mod_lt i hpos
 rw [getElem!_pos z.cells _ hlt]
 exact Array.all_eq_true_iff_forall_mem.1 hz _ (Array.getElem_mem hlt)

theorem ygC (hty : TyOk P ty) {p q : Operand} {t e : TypeId} {ti te : TyI} {n : Nat} {y : PV} (ho : o.op = .call { callee := .builtin .append, args := #[p, q], argTypes := #[t, t] }) (hti : ty t = some ti) (hk : ti.kind = .slice e) (hte : ty e = some te) (hs1 : te.size = 1)
  (hp : PathAt s.σ (ev s p) n) (hq : (ev s q).elems = some [y]) (hy : y.cells.length = 1) (hb0 : 0 < te.bytes) (hbytes : (n + 1) * te.bytes ≤ 140737488355328) (hd : yJ N o.dst = true)
  (hnx : ∀ x' objs', (objs' = s.σ.objs ∨ ∃ cap, objs' = s.σ.objs ++ [.box (List.replicate cap .junk)]) → PathAt { s.σ with objs := objs' } x' (n + 1) → next (({ s with σ := { s.σ with objs := objs' } } : St).put o.dst x')) : AOp P σ0 N o next s := by
 rintro g0 w0 a w nx Q ⟨g, r⟩ hnext
 obtain ⟨i, z, h7, h8, h9, h10, h11, h12, h13⟩ := (hty _ _ hte).info
 have hut := (hty _ _ hti).slice hk
 have hu := (r.ev q).elems hq
 obtain ⟨ad2, c2, us, hqv, hc2, hul, hu1, hur, huc, hua⟩ := hu.row_cells (sz := 1) (by intro x hx; simp at hx; subst hx; exact hy)
 obtain ⟨b2, off2, rfl⟩ := hua (by simp)
 have hul1 : us.length = 1 := by simpa using hul
 have hnews : ∀ j u, us[j]? = some u → w.cell? ((⟨b2, off2, none⟩ : Addr).add j) = some u := by
  intro j u hj
  obtain ⟨b, off, hbo, _, h2⟩ := huc j u hj
  cases hbo
  rw [y5]; exact h2
 have hz1 : z.cells.all (·.oneCell') = true := by
  rw [Array.all_eq_true_iff_forall_mem]
  intro v hv
  have hr : RCells g s.σ.toks w (te.zero.map .pv) z.cells.toList := Yt h11
  exact hr.one v (by simpa using hv)
 have hnl : n + 1 ≤ 140737488355328 := Nat.le_trans (Nat.le_mul_of_pos_right _ hb0) hbytes
 unfold opW
 rcases hp with ⟨o0, hpx, rfl⟩ | ⟨ob, cap, hpx, hle, hcap0, hob⟩
 ·have hpv : a.eval p = .slice none 0 0 := by
   have := r.ev p
   rw [hpx] at this
   generalize a.eval p = v at this
   cases this with
   | scr h hn h0 => omega
   | scrnil => rfl
  have hrun := run_append_nil (P := P) w t o.type e i z hut h7 h10 ⟨b2, off2, none⟩ 1 c2 us (by rw [h8, hs1, hul1]) hnews (by omega) (by omega) (by rw [h9]; omega)
  have hge := grownCap_ge w 1 0 e
  generalize grownCap w 1 0 e = cap at hrun hge
  have hrun' : (execOp a.eval o).run P w = .ok (.value (.slice (some ⟨w.heap.size, 0, none⟩) 1 cap)) (w.drew.alloc (.cells (us ++ (Builtin.zeroCells z.cells (cap - 1)).toList).toArray e)) := by
   refine Za ho ?_
   rw [hpv, hqv]
   rw [show ([y] : List PV).length = 1 from rfl, hrun]
   congr 3
   apply Array.ext'; simp
  rw [hrun']
  have hlen : (us ++ (Builtin.zeroCells z.cells (cap - 1)).toList).length = cap := by
   simp only [List.length_append, Array.length_toList, size_zeroCells, h12, hs1, hul1]; omega
  obtain ⟨g', r'⟩ := ykm (n := 1) r hd (vs := us ++ (Builtin.zeroCells z.cells (cap - 1)).toList) (by
   intro v hv
   rcases List.mem_append.1 hv with hv | hv
   ·exact hu1 v hv
   ·exact ydb hz1 _ v hv) e (by rw [hlen]; exact hge) (by rw [hlen]; omega)
  rw [hlen] at r'
  exact hnext _ _ _ (hnx _ _ (.inr ⟨cap, rfl⟩) (.inr ⟨_, cap, rfl, hge, by omega, by simp⟩)) ⟨g', r'⟩
 ·have hpr := r.ev p
  rw [hpx] at hpr
  generalize hpv : a.eval p = pv at hpr
  cases hpr with
  | scrnil => omega
  | scr hio _ _ =>
   rename_i b _ _
   obtain ⟨hnl', vs, e', h3, h4, h5, h6⟩ := r.2.1.objs ob _ b hob hio
   have hvl : vs.length = cap := by simpa using h4
   by_cases hroom : n + 1 ≤ cap
   ·have hcell : ∀ j, j < us.length → (w.cell? ⟨b, 0 + n * i.size + j, none⟩).isSome = true := by
     intro j hj
     rw [zg h3, h8, hs1]
     simp
     omega
    have hfroz : ∀ j, j < us.length → w.frozen? ⟨b, 0 + n * i.size + j, none⟩ = false := by
     intro j hj
     simp [World.frozen?, h3]
    have hrun := run_append_room_cells (P := P) w t o.type e i hut h7 b 0 n cap ⟨b2, off2, none⟩ 1 c2 us (by rw [h8, hs1, hul1]) hnews hu1 hroom hcell hfroz
    obtain ⟨u, rfl⟩ : ∃ u, us = [u] := List.length_eq_one_iff.1 hul1
    have hset : w.setCells b (0 + n * i.size) [u] = zk w b (.cells (vs.set n u).toArray e' (0, 0)) := by
     simp only [World.setCells, h8, hs1, Nat.mul_one, Nat.zero_add]
     rw [yeQ h3]
     simp
    rw [hset] at hrun
    have hrun' : (execOp a.eval o).run P w = .ok (.value (.slice (some ⟨b, 0, none⟩) (n + 1) cap)) (zk w b (.cells (vs.set n u).toArray e' (0, 0))) := by
     refine Za ho ?_
     rw [hpv, hqv]
     exact hrun
    rw [hrun']
    obtain ⟨le, hK⟩ := r.2.1.turn (ob := .cells (vs.set n u).toArray e' (0, 0)) h3 (.inl (List.mem_of_getElem? hio))
    have hone : ∀ v, v ∈ vs.set n u → v.oneCell' = true := by
     intro v hv
     rcases List.mem_or_eq_of_mem_set hv with hv | rfl
     ·exact h5 v hv
     ·exact hu1 _ (by simp)
    have hinv := r.2.1.setObj (e := e') h3 hio (ds := List.replicate cap .junk) (us := vs.set n u) (yeH (by simp [hvl]) hone) (fun x hx => by rw [List.eq_of_mem_replicate hx]; rfl)
    have hsame : s.σ.objs.set ob (.box (List.replicate cap .junk)) = s.σ.objs := by
     apply List.ext_getElem?
     intro j
     rw [List.getElem?_set]
     split
     ·subst_vars
      rw [hob]
      have := (List.getElem?_eq_some_iff.1 hob).1
      simp [this]
     ·rfl
    rw [hsame] at hinv
    have r' := r.later (σ' := s.σ) (L' := s.L) le (fun _ _ h => h) hinv rfl rfl hK (by rw [yP]; exact Nat.le_refl _) rfl rfl rfl
    refine hnext _ _ _ (hnx (.scr ob (n + 1) cap) s.σ.objs (.inl rfl) (.inr ⟨ob, cap, rfl, hroom, hcap0, hob⟩)) ⟨g, ?_⟩
    exact r'.put (.scr hio hroom hcap0) hd
   ·have hfit := growslice_fits (need := n + 1) (old := cap) (bytes := i.bytes) (by omega) (by rw [h9]; exact hbytes)
    have hrun := run_append_grow (P := P) w t o.type e i z hut h7 h10 ⟨b, 0, none⟩ n cap (vs.take n) (by rw [h8, hs1, List.length_take]; omega) (fun j v hj => by
     rw [y5, zg h3]
     rw [List.getElem?_take] at hj
     split at hj
     ·simpa using hj
     ·cases hj) ⟨b2, off2, none⟩ 1 c2 us (by rw [h8, hs1, hul1]) hnews (by omega) (by omega) hfit
    have hge := grownCap_ge w (n + 1) cap e
    generalize grownCap w (n + 1) cap e = cap' at hrun hge
    have hrun' : (execOp a.eval o).run P w = .ok (.value (.slice (some ⟨w.heap.size, 0, none⟩) (n + 1) cap')) (w.drew.alloc (.cells (vs.take n ++ us ++ (Builtin.zeroCells z.cells (cap' - (n + 1))).toList).toArray e)) := by
     refine Za ho ?_
     rw [hpv, hqv]
     rw [show ([y] : List PV).length = 1 from rfl, hrun]
     congr 3
     apply Array.ext'; simp
    rw [hrun']
    have hlen : (vs.take n ++ us ++ (Builtin.zeroCells z.cells (cap' - (n + 1))).toList).length = cap' := by
     simp only [List.length_append, Array.length_toList, size_zeroCells, h12, hs1, hul1, List.length_take]; omega
    obtain ⟨g', r'⟩ := ykm (n := n + 1) r hd (vs := vs.take n ++ us ++ (Builtin.zeroCells z.cells (cap' - (n + 1))).toList) (by
     intro v hv
     rcases List.mem_append.1 hv with hv | hv
     ·rcases List.mem_append.1 hv with hv | hv
      ·exact h5 v (List.mem_of_mem_take hv)
      ·exact hu1 v hv
     ·exact ydb hz1 _ v hv) e (by rw [hlen]; exact hge) (by rw [hlen]; omega)
    rw [hlen] at r'
    exact hnext _ _ _ (hnx _ _ (.inr ⟨cap', rfl⟩) (.inr ⟨_, cap', rfl, hge, by omega, by simp⟩)) ⟨g', r'⟩

end
end Go.Aw

namespace Go.Aw
open Go
structure View where
 L : List (List AV)
 objs : List AObj
 gl : List (Nat × PV)

def View.st (V : View) (T : List (Nat × AV)) : St := ⟨T, V.L, ⟨V.gl, V.objs, []⟩⟩

inductive Eff where
 | pure (x : AV)
 | box (cs : List AV)
 | call (f : FuncId) (args : List AV)
 | append (e : TypeId) (te : TyI) (x : AV) (ys : List PV)
 | storeL (i off : Nat) (ti : TyI) (ds : List AV)
 | path (x : AV) (n : Nat)
 | mk

def ZG (ty : TyT) (s : St) (op : Op) : Option Eff := (Yg ty s op).map .pure

def YA (ty : TyT) (s : St) (o : Oper) : Option Eff :=
 match o.op with
 | .alloc e => (ty e).map fun ti => .box (ti.zero.map .pv)
 | .box e y => (ev s y).cells.map .box
 | .store t p y => match o.dst, ty t, (ev s y).cells, ev s p with
  | none, some ti, some ds, .lptr i off => some (.storeL i off ti ds)
  | _, _, _, _ => none
 | .call c => match zN (.call c) with
  | some (p, q, t) => match ty t with
   | some ti => match ti.kind with
    | .slice e => match ty e, (ev s q).elems with
     | some te, some ys => match ev s p with
      | .scr o n cap => match ys with
       | [y] => if te.size = 1 ∧ y.cells.length = 1 ∧ 0 < te.bytes ∧ (n + 1) * te.bytes ≤ 140737488355328 then some (.path (.scr o n cap) n) else none
       | _ => none
      | x => some (.append e te x ys)
     | _, _ => none
    | _ => none
   | none => none
  | none => match c.callee with
   | .value fo => match ev s fo with
    | .func (.func f) caps => some (.call f (c.args.toList.map (ev s) ++ caps))
    | _ => none
   | _ => ZG ty s (.call c)
 | .lookup t m k ok => (Yx ty s t (ev s m) (ev s k) ok).map .pure
 | .makeMap _ none => some .mk
 | .buildSlice t len parts => match ty t with
  | some ti => match ti.kind with
   | .slice e => match ty e with
    | some te => match Y0 te.size 0 (parts.toList.map fun q => (q.1, ev s q.2)) with
     | some ps => if ps.length = len ∧ len * te.size ≤ 16777216 then some (.pure (.full ps)) else none
     | none => none
    | none => none
   | _ => none
  | none => none
 | op => ZG ty s op

def YB (P : Program) (V : View) (e : Eff) (next : AV → List (List AV) → Store → Prop) (L : List (List AV)) (σ : Store) : Prop :=
 match e with
 | .pure x => next x L σ
 | .box cs => next (.lptr L.length 0) (L ++ [cs]) σ
 | .call f args => Callable P f ∧ AV.noLs args = true ∧ (ACalls P f args σ fun r σ' => (∀ (o : Nat) ob, V.objs[o]? = some ob → ob ≠ .box [] → σ'.objs[o]? = some ob) ∧ next r L σ') ∧ ∃ r σ', next r L σ'
 | .append e te x ys => ∃ s', zK ⟨[], L, σ⟩ (some 0) e te x ys = some s' ∧ next (get s'.T 0) L s'.σ
 | .path x n => PathAt σ x n ∧ ∀ x' objs', (objs' = σ.objs ∨ ∃ cap, objs' = σ.objs ++ [.box (List.replicate cap .junk)]) → PathAt { σ with objs := objs' } x' (n + 1) → next x' L { σ with objs := objs' }
 | .mk => next (.map σ.objs.length) L { σ with objs := σ.objs ++ [.map [] []] }
 | .storeL i off ti ds => ∃ cs, L[i]? = some cs ∧ ds.length = ti.size ∧ off + ds.length ≤ cs.length ∧ (V.L[i]? = none ∨ V.L[i]? = some []) ∧ next .junk (L.set i (overlay cs off ds)) σ

def putT (T : List (Nat × AV)) (dst : Option Tmp) (x : AV) : List (Nat × AV) :=
 match dst with
 | some d => (d, x) :: T
 | none => T

inductive GateEff (ty : TyT) (V : View) (ops : Array Oper) (T : List (Nat × AV)) (o : Oper) : Eff → Prop where
 | plain {e : Eff} (hg : o.guard = none) (he : YA ty (V.st T) o = some e) : GateEff ty V ops T o e
 | yes {e : Eff} {d : Tmp} {b : Bool} (hg : y9 ops o = some (d, b)) (hb : get T d = .pv (.bool b)) (he : YA ty (V.st T) o = some e) : GateEff ty V ops T o e
 | no {d : Tmp} {b : Bool} (hg : y9 ops o = some (d, b)) (hb : off (get T d) b = true) : GateEff ty V ops T o (.pure (.tuple []))

def UStep (P : Program) (ty : TyT) (V : View) (ops : Array Oper) (o : Oper) (next : List (Nat × AV) → List (List AV) → Store → Prop) (T : List (Nat × AV)) (L : List (List AV)) (σ : Store) : Prop :=
 ∃ e, GateEff ty V ops T o e ∧ YB P V e (fun x L σ => next (putT T o.dst x) L σ) L σ

def Same (T T' : List (Nat × AV)) : Prop := ∀ t, get T t = get T' t


def ydI (xs : Array Operand) : List Tmp := xs.toList.filterMap fun | .tmp t => some t | _ => none

def ya0 (ops : Array Oper) (o : Oper) : List Tmp := ydI o.op.operands ++ (match y9 ops o with | some (d, _) => [d] | none => [])

theorem yfg {s s' : St} {x : Operand} {xs : Array Operand} (hx : x ∈ xs) (hT : ∀ t, t ∈ ydI xs → get s.T t = get s'.T t) (hg : s.σ.gl = s'.σ.gl) : ev s x = ev s' x := by
 cases x with
 | tmp t => exact hT t (List.mem_filterMap.2 ⟨.tmp t, by simpa using hx, rfl⟩)
 | const v => rfl
 | global g => simp only [ev, hg]
 | func f => rfl

section
variable {ty : TyT} {s s' : St}
theorem ydQ {op : Op} (hT : ∀ t, t ∈ ydI op.operands → get s.T t = get s'.T t) (hg : s.σ.gl = s'.σ.gl)
  (hload : ∀ t ti x, ∀ y, ty t = some ti → Yi s ti x = some y → Yi s' ti x = some y) {x : AV} (h : Yg ty s op = some x) : Yg ty s' op = some x := by
 have e : ∀ y, y ∈ op.operands → ev s' y = ev s y := fun y hy => (yfg hy hT hg).symm
 cases op <;> simp only [Yg] at h ⊢ <;> first
  | exact h
  | (cases h; done)
  | skip
 case move y => rw [e y (by simp [Op.operands])]; exact h
 case assign y => rw [e y (by simp [Op.operands])]; exact h
 case pick c y z => rw [e c (by simp [Op.operands]), e y (by simp [Op.operands]), e z (by simp [Op.operands])]; exact h
 case binOp op t x y yt => rw [e x (by simp [Op.operands]), e y (by simp [Op.operands])]; exact h
 case unOp op t y => rw [e y (by simp [Op.operands])]; exact h
 case nilCheck y => rw [e y (by simp [Op.operands])]; exact h
 case fieldAddr t y f => rw [e y (by simp [Op.operands])]; exact h
 case load t y =>
  rw [e y (by simp [Op.operands])]
  split at h
  ·exact hload _ _ _ _ ‹_› h
  ·exact h
 case indexAddr t y i => rw [e y (by simp [Op.operands]), e i (by simp [Op.operands])]; exact h
 case index t y i => rw [e y (by simp [Op.operands]), e i (by simp [Op.operands])]; exact h
 case slice t y lo hi mx =>
  have h1 : lo.map (ev s') = lo.map (ev s) := by cases lo with | none => rfl | some l => simp [e l (by simp [Op.operands])]
  have h2 : hi.map (ev s') = hi.map (ev s) := by cases hi with | none => rfl | some l => simp [e l (by simp [Op.operands])]
  have h3 : mx.map (ev s') = mx.map (ev s) := by cases mx with | none => rfl | some l => simp [e l (by simp [Op.operands])]
  rw [e y (by simp [Op.operands]), h1, h2, h3]; exact h
 case extract y i => rw [e y (by simp [Op.operands])]; exact h
 case field t y f => rw [e y (by simp [Op.operands])]; exact h
 case convert t u y => rw [e y (by simp [Op.operands])]; exact h
 case makeFunc fn first caps =>
  cases fn <;> simp only [Yg] at h ⊢ <;> first | (cases h; done) | skip
  have h1 : caps.toList.map (ev s') = caps.toList.map (ev s) := List.map_congr_left fun y hy => e y (by simp [Op.operands]; right; simpa using hy)
  rw [h1]; exact h
 case build t parts =>
  have h1 : parts.toList.map (fun p => (p.1, ev s' p.2)) = parts.toList.map (fun p => (p.1, ev s p.2)) := List.map_congr_left fun p hp => by
   rw [e p.2 (by simp only [Op.operands]; simp; exact ⟨p.1, by simpa using hp⟩)]
  rw [h1]; exact h
 case call c =>
  split at h
  ·rename_i b hb
   have h1 : c.args.toList.map (ev s') = c.args.toList.map (ev s) := List.map_congr_left fun y hy => e y (by simp [Op.operands, Call.operands]; right; simpa using hy)
   rw [h1]; exact h
  ·cases h

theorem yiF (hL : s.L = s'.L) (ho : s.σ.objs = s'.σ.objs) : ∀ ti x, ∀ y, Yi s ti x = some y → Yi s' ti x = some y := by
 intro ti x y h
 unfold Yi at h ⊢
 rw [← hL, ← ho]; exact h

theorem yjY (ho : s.σ.objs = s'.σ.objs) (m : AV) : yay s' m = yay s m := by
 unfold yay; rw [ho]

theorem yiD (ho : s.σ.objs = s'.σ.objs) {t : TypeId} {m k : AV} {ok : Bool} : Yx ty s' t m k ok = Yx ty s t m k ok := by
 unfold Yx; rw [yjY ho]

theorem yeT {o : Oper} {e : Eff} (hT : ∀ t, t ∈ ydI o.op.operands → get s.T t = get s'.T t) (hL : s.L = s'.L) (hσ : s.σ = s'.σ) (h : YA ty s o = some e) : YA ty s' o = some e := by
 have hg : s.σ.gl = s'.σ.gl := by rw [hσ]
 have hev : ∀ y, y ∈ o.op.operands → ev s' y = ev s y := fun y hy => (yfg hy hT hg).symm
 have hp : ∀ op, o.op = op → ZG ty s op = some e → ZG ty s' op = some e := by
  rintro op rfl h
  obtain ⟨x, hx, rfl⟩ := Option.map_eq_some_iff.1 h
  have := ydQ (s' := s') hT hg (fun _ ti x y _ => yiF hL (by rw [hσ]) ti x y) hx
  simp only [ZG, this]; rfl
 unfold YA at h ⊢
 split at h
 ·exact h
 ·rename_i t y ho
  rw [hev y (by rw [ho]; simp [Op.operands])]; exact h
 ·rename_i t p y ho
  rw [hev y (by rw [ho]; simp [Op.operands]), hev p (by rw [ho]; simp [Op.operands])]; exact h
 ·rename_i c ho
  split at h
  ·rename_i p q t ha
   have ha' := ybQ ha
   rw [ha'] at ho
   rw [hev p (by rw [ho]; simp [Op.operands, Call.operands]), hev q (by rw [ho]; simp [Op.operands, Call.operands])]; exact h
  ·split at h
   ·rename_i fo hc
    have h1 : c.args.toList.map (ev s') = c.args.toList.map (ev s) := List.map_congr_left fun y hy => hev y (by rw [ho]; simp [Op.operands, Call.operands]; right; simpa using hy)
    rw [hev fo (by rw [ho]; simp [Op.operands, Call.operands, hc]), h1]; exact h
   ·exact hp _ ho h
 ·rename_i t m k ok ho
  rw [hev m (by rw [ho]; simp [Op.operands]), hev k (by rw [ho]; simp [Op.operands]), yiD (by rw [hσ])]; exact h
 ·exact h
 ·rename_i t len parts ho
  have h1 : parts.toList.map (fun p => (p.1, ev s' p.2)) = parts.toList.map (fun p => (p.1, ev s p.2)) := List.map_congr_left fun p hp => by
   rw [hev p.2 (by rw [ho]; simp only [Op.operands]; simp; exact ⟨p.1, by simpa using hp⟩)]
  rw [h1]; exact h
 ·exact hp _ rfl h
end
theorem ycQ {ty : TyT} {V : View} {ops : Array Oper} {T T' : List (Nat × AV)} {o : Oper} {e : Eff} (hT : ∀ t, t ∈ ya0 ops o → get T t = get T' t) (h : GateEff ty V ops T o e) : GateEff ty V ops T' o e := by
 have h1 : ∀ t, t ∈ ydI o.op.operands → get (V.st T).T t = get (V.st T').T t := fun t ht => hT t (List.mem_append_left _ ht)
 have h2 : ∀ d b, y9 ops o = some (d, b) → get T d = get T' d := fun d b hg => hT d (by simp [ya0, hg])
 cases h with
 | plain hg he => exact .plain hg (yeT h1 rfl rfl he)
 | yes hg hb he => exact .yes hg ((h2 _ _ hg) ▸ hb) (yeT h1 rfl rfl he)
 | no hg hb => exact .no hg ((h2 _ _ hg) ▸ hb)

theorem ymR {T T' : List (Nat × AV)} (h : Same T T') (dst : Option Tmp) (x : AV) : Same (putT T dst x) (putT T' dst x) := by
 intro t
 cases dst with
 | none => exact h t
 | some d => simp only [putT, get]; split <;> first | rfl | exact h t

theorem ymz {T : List (Nat × AV)} {d e : Option Tmp} (h : d = none ∨ e = none ∨ d ≠ e) (x y : AV) : Same (putT (putT T d x) e y) (putT (putT T e y) d x) := by
 intro t
 cases d with
 | none => rfl
 | some d =>
  cases e with
  | none => rfl
  | some e =>
   have hne : d ≠ e := by
    rcases h with h | h | h
    ·cases h
    ·cases h
    ·exact fun he => h (by rw [he])
   simp only [putT, get]
   by_cases h1 : e = t
   ·subst h1; simp [hne]
   ·simp [h1]

theorem zW {T : List (Nat × AV)} {dst : Option Tmp} {x : AV} {t : Tmp} (h : dst ≠ some t) : get (putT T dst x) t = get T t := by
 cases dst with
 | none => rfl
 | some d => simp only [putT, get]; rw [if_neg (fun he => h (by rw [he]))]

section
variable {P : Program} {ty : TyT} {V : View} {ops : Array Oper}
theorem YV {e : Eff} {n n' : AV → List (List AV) → Store → Prop} (k : ∀ x L σ, n x L σ → n' x L σ) {L : List (List AV)} {σ : Store} (h : YB P V e n L σ) : YB P V e n' L σ := by
 cases e with
 | pure x => exact k _ _ _ h
 | box cs => exact k _ _ _ h
 | call f args => exact ⟨h.1, h.2.1, h.2.2.1.mono fun r σ' q => ⟨q.1, k _ _ _ q.2⟩, by obtain ⟨r, σ', q⟩ := h.2.2.2; exact ⟨r, σ', k _ _ _ q⟩⟩
 | append e te x ys => obtain ⟨s', h1, h2⟩ := h; exact ⟨s', h1, k _ _ _ h2⟩
 | storeL i off ti ds => obtain ⟨cs, h1, h2, h3, h4, h5⟩ := h; exact ⟨cs, h1, h2, h3, h4, k _ _ _ h5⟩
 | path x n => exact ⟨h.1, fun x' objs' h1 h2 => k _ _ _ (h.2 x' objs' h1 h2)⟩
 | mk => exact k _ _ _ h

theorem ydu {e : Eff} {n : AV → List (List AV) → Store → Prop} {L : List (List AV)} {σ : Store} (h : YB P V e n L σ) : ∃ x L' σ', n x L' σ' := by
 cases e with
 | pure x => exact ⟨_, _, _, h⟩
 | box cs => exact ⟨_, _, _, h⟩
 | call f args => obtain ⟨r, σ', q⟩ := h.2.2.2; exact ⟨_, _, _, q⟩
 | append e te x ys => obtain ⟨s', h1, h2⟩ := h; exact ⟨_, _, _, h2⟩
 | storeL i off ti ds => obtain ⟨cs, h1, h2, h3, h4, h5⟩ := h; exact ⟨_, _, _, h5⟩
 | path x n => exact ⟨_, _, _, h.2 (.scr σ.objs.length (n + 1) (n + 1)) (σ.objs ++ [.box (List.replicate (n + 1) .junk)]) (.inr ⟨_, rfl⟩) (.inr ⟨_, _, rfl, Nat.le_refl _, by omega, by simp⟩)⟩
 | mk => exact ⟨_, _, _, h⟩

theorem Zv {o : Oper} {n n' : List (Nat × AV) → List (List AV) → Store → Prop} (k : ∀ T L σ, n T L σ → n' T L σ) {T : List (Nat × AV)} {L : List (List AV)} {σ : Store} (h : UStep P ty V ops o n T L σ) : UStep P ty V ops o n' T L σ := by
 obtain ⟨e, h1, h2⟩ := h
 exact ⟨e, h1, YV (fun x L σ q => k _ _ _ q) h2⟩

def Closed (n : List (Nat × AV) → List (List AV) → Store → Prop) : Prop := ∀ T T' L σ, Same T T' → n T L σ → n T' L σ

theorem ydB {o : Oper} {n : List (Nat × AV) → List (List AV) → Store → Prop} (hn : Closed n) : Closed (UStep P ty V ops o n) := by
 rintro T T' L σ hs ⟨e, h1, h2⟩
 exact ⟨e, ycQ (fun t _ => hs t) h1, YV (fun x L σ q => hn _ _ _ _ (ymR hs _ _) q) h2⟩

def yda (o : Oper) : Nat :=
 match o.op with
 | .alloc _ | .box _ _ => 1
 | .makeMap _ none => 2
 | .store _ _ _ => 3
 | .call c => match zN (.call c) with
  | some _ => 2
  | none => match c.callee with
   | .value _ => 2
   | _ => 0
 | _ => 0

def Eff.cls : Eff → Nat
 | .pure _ => 0
 | .box _ => 1
 | .call .. => 2
 | .append .. => 2
 | .storeL .. => 3
 | .path .. => 2
 | .mk => 2

theorem yhu {s : St} {o : Oper} {e : Eff} (h : YA ty s o = some e) : e.cls = yda o := by
 have hp : ∀ op, ZG ty s op = some e → e.cls = 0 := by
  intro op h
  obtain ⟨x, hx, rfl⟩ := Option.map_eq_some_iff.1 h
  rfl
 unfold YA at h
 unfold yda
 generalize o.op = op at h
 cases op <;> simp only at h ⊢ <;> first | exact hp _ h | skip
 case alloc => obtain ⟨x, hx, rfl⟩ := Option.map_eq_some_iff.1 h; rfl
 case box => obtain ⟨x, hx, rfl⟩ := Option.map_eq_some_iff.1 h; rfl
 case lookup => obtain ⟨x, hx, rfl⟩ := Option.map_eq_some_iff.1 h; rfl
 case makeMap t x => cases x with
  | none => simp only at h ⊢; cases h; rfl
  | some x => exact hp _ h
 case buildSlice =>
  split at h
  ·split at h
   ·split at h
    ·split at h
     ·split at h
      ·cases h; rfl
      ·cases h
     ·cases h
    ·cases h
   ·cases h
  ·cases h
 case store =>
  split at h
  ·cases h; rfl
  ·cases h
 case call c =>
  split at h
  ·rename_i ha
   simp only [ha]
   split at h
   ·split at h
    ·split at h
     ·split at h
      ·split at h
       ·split at h
        ·cases h; rfl
        ·cases h
       ·cases h
      ·cases h; rfl
     ·cases h
    ·cases h
   ·cases h
  ·rename_i ha
   simp only [ha]
   split at h
   ·split at h
    ·cases h; rfl
    ·cases h
   ·exact hp _ h

theorem yiw {T : List (Nat × AV)} {o : Oper} {e : Eff} (h : GateEff ty V ops T o e) : e.cls = yda o ∨ e.cls = 0 := by
 cases h with
 | plain hg he => exact .inl (yhu he)
 | yes hg hb he => exact .inl (yhu he)
 | no hg hb => exact .inr rfl

def zq (a b : Nat) : Bool := a == 0 || b == 0 || (a == 1 && b == 2) || (a == 2 && b == 1)

theorem ydO {L L' : List (List AV)} {σ : Store} {e : TypeId} {te : TyI} {x : AV} {ys : List PV} {s' : St} (h : zK ⟨[], L, σ⟩ (some 0) e te x ys = some s') :
  ∃ s'', zK ⟨[], L', σ⟩ (some 0) e te x ys = some s'' ∧ s''.T = s'.T ∧ s''.σ = s'.σ := by
 refine ⟨⟨s'.T, L', s'.σ⟩, ?_, rfl, rfl⟩
 unfold zK at h ⊢
 split at h
 ·rw [if_pos ‹_›]
  split at h
  ·rename_i hk
   simp only at hk ⊢
   split at h
   ·rename_i hk
    simp only at hk
    simp only [hk]
    split at h
    ·rw [if_pos ‹_›]
     cases h; rfl
    ·cases h
   ·cases h
  ·split at h
   ·rename_i hx
    simp only [hx]
    split at h
    ·rw [if_pos ‹_›]
     cases h; rfl
    ·cases h
   ·cases h
 ·cases h

theorem yjm {e1 e2 : Eff} (hc : zq e1.cls e2.cls = true) {n : AV → AV → List (List AV) → Store → Prop} {L : List (List AV)} {σ : Store}
  (h : YB P V e1 (fun x1 L1 σ1 => YB P V e2 (fun x2 L2 σ2 => n x1 x2 L2 σ2) L1 σ1) L σ) : YB P V e2 (fun x2 L1 σ1 => YB P V e1 (fun x1 L2 σ2 => n x1 x2 L2 σ2) L1 σ1) L σ := by
 cases e1 with
 | pure x => exact h
 | box cs =>
  cases e2 with
  | pure x => exact h
  | box ds => simp [zq, Eff.cls] at hc
  | call f args => exact h
  | append e te x ys =>
   obtain ⟨s', h1, h2⟩ := h
   obtain ⟨s'', k1, k2, k3⟩ := ydO (L' := L) h1
   exact ⟨s'', k1, by rw [k2, k3]; exact h2⟩
  | storeL => simp [zq, Eff.cls] at hc
  | path x n => exact h
  | mk => exact h
 | call f args =>
  cases e2 with
  | pure x => exact h
  | box ds => exact h
  | call f' args' => simp [zq, Eff.cls] at hc
  | append => simp [zq, Eff.cls] at hc
  | storeL => simp [zq, Eff.cls] at hc
  | path => simp [zq, Eff.cls] at hc
  | mk => simp [zq, Eff.cls] at hc
 | append e te x ys =>
  cases e2 with
  | pure x => exact h
  | box ds =>
   obtain ⟨s', h1, h2⟩ := h
   obtain ⟨s'', k1, k2, k3⟩ := ydO (L' := L ++ [ds]) h1
   exact ⟨s'', k1, by rw [k2, k3]; exact h2⟩
  | call f' args' => simp [zq, Eff.cls] at hc
  | append => simp [zq, Eff.cls] at hc
  | storeL => simp [zq, Eff.cls] at hc
  | path => simp [zq, Eff.cls] at hc
  | mk => simp [zq, Eff.cls] at hc
 | path x n =>
  cases e2 with
  | pure x => exact h
  | box ds => exact h
  | call => simp [zq, Eff.cls] at hc
  | append => simp [zq, Eff.cls] at hc
  | storeL => simp [zq, Eff.cls] at hc
  | path => simp [zq, Eff.cls] at hc
  | mk => simp [zq, Eff.cls] at hc
 | storeL i off ti ds =>
  obtain ⟨cs, k1, k2, k3, k4, k5⟩ := h
  cases e2 with
  | pure x => exact ⟨cs, k1, k2, k3, k4, k5⟩
  | box => simp [zq, Eff.cls] at hc
  | call => simp [zq, Eff.cls] at hc
  | append => simp [zq, Eff.cls] at hc
  | storeL => simp [zq, Eff.cls] at hc
  | path => simp [zq, Eff.cls] at hc
  | mk => simp [zq, Eff.cls] at hc
 | mk =>
  cases e2 with
  | pure x => exact h
  | box ds => exact h
  | call => simp [zq, Eff.cls] at hc
  | append => simp [zq, Eff.cls] at hc
  | storeL => simp [zq, Eff.cls] at hc
  | path => simp [zq, Eff.cls] at hc
  | mk => simp [zq, Eff.cls] at hc

theorem ylg {o1 o2 : Oper} (hc : zq (yda o1) (yda o2) = true) (h12 : ∀ t, o1.dst = some t → t ∉ ya0 ops o2) (h21 : ∀ t, o2.dst = some t → t ∉ ya0 ops o1) (hd : o1.dst = none ∨ o2.dst = none ∨ o1.dst ≠ o2.dst)
  {n : List (Nat × AV) → List (List AV) → Store → Prop} (hn : Closed n) {T : List (Nat × AV)} {L : List (List AV)} {σ : Store} (h : UStep P ty V ops o1 (UStep P ty V ops o2 n) T L σ) : UStep P ty V ops o2 (UStep P ty V ops o1 n) T L σ := by
 obtain ⟨e1, g1, h⟩ := h
 -- the second one's effect does not hang on the first one's result
 have key : ∀ (e2 : Eff), GateEff ty V ops T o2 e2 → YB P V e1 (fun x L σ => YB P V e2 (fun y L σ => n (putT (putT T o1.dst x) o2.dst y) L σ) L σ) L σ → UStep P ty V ops o2 (UStep P ty V ops o1 n) T L σ := by
  intro e2 g2 h
  have hcc : zq e1.cls e2.cls = true := by
   rcases yiw g1 with h1 | h1 <;> rcases yiw g2 with h2 | h2 <;> rw [h1, h2] <;> first
    | exact hc
    | simp [zq]
  refine ⟨e2, g2, YV (fun y L1 σ1 q => ?_) (yjm hcc h)⟩
  refine ⟨e1, ycQ (fun t ht => (zW (fun e => h21 t e ht)).symm) g1, YV (fun x L2 σ2 q => hn _ _ _ _ (ymz hd x y) q) q⟩
 have back : ∀ (x : AV) (e2 : Eff), GateEff ty V ops (putT T o1.dst x) o2 e2 → GateEff ty V ops T o2 e2 := fun x e2 g => ycQ (fun t ht => zW (fun e => h12 t e ht)) g
 -- the effect is one and the same whatever the result
 have det : ∀ e2 e2', GateEff ty V ops T o2 e2 → GateEff ty V ops T o2 e2' → e2 = e2' := by
  intro e2 e2' k1 k2
  cases k1 with
  | plain a1 a2 =>
   cases k2 with
   | plain b1 b2 => rw [a2] at b2; cases b2; rfl
   | yes b1 => simp [y9, a1] at b1
   | no b1 => simp [y9, a1] at b1
  | yes a1 a2 a3 =>
   cases k2 with
   | plain b1 b2 => simp [y9, b1] at a1
   | yes b1 b2 b3 => rw [a3] at b3; cases b3; rfl
   | no b1 b2 => rw [a1] at b1; cases b1; rw [a2] at b2; simp [off] at b2
  | no a1 a2 =>
   cases k2 with
   | plain b1 b2 => simp [y9, b1] at a1
   | yes b1 b2 b3 => rw [a1] at b1; cases b1; rw [b2] at a2; simp [off] at a2
   | no b1 b2 => rfl
 by_cases hg : ∃ e2, GateEff ty V ops T o2 e2
 ·obtain ⟨e2, g2⟩ := hg
  refine key e2 g2 (YV (fun x L1 σ1 q => ?_) h)
  obtain ⟨e2', g2', q⟩ := q
  have := det _ _ (back x e2' g2') g2
  subst this
  exact q
 ·exfalso
  obtain ⟨x, L1, σ1, e2, g2, _⟩ := ydu h
  exact hg ⟨e2, back x e2 g2⟩


def Zp (ops : Array Oper) (o1 o2 : Oper) : Bool :=
 zq (yda o1) (yda o2) && (match o1.dst with | some t => !(ya0 ops o2).contains t | none => true) && (match o2.dst with | some t => !(ya0 ops o1).contains t | none => true) &&
  (match o1.dst, o2.dst with | some a, some b => a != b | _, _ => true)

theorem yjM {o1 o2 : Oper} (h : Zp ops o1 o2 = true) {n : List (Nat × AV) → List (List AV) → Store → Prop} (hn : Closed n) {T : List (Nat × AV)} {L : List (List AV)} {σ : Store} (k : UStep P ty V ops o1 (UStep P ty V ops o2 n) T L σ) : UStep P ty V ops o2 (UStep P ty V ops o1 n) T L σ := by
 simp only [Zp, Bool.and_eq_true] at h
 obtain ⟨⟨⟨h1, h2⟩, h3⟩, h4⟩ := h
 refine ylg h1 (fun t ht hm => ?_) (fun t ht hm => ?_) ?_ hn k
 ·rw [ht] at h2; simp [hm] at h2
 ·rw [ht] at h3; simp [hm] at h3
 ·cases hd1 : o1.dst with
  | none => exact .inl rfl
  | some a =>
   cases hd2 : o2.dst with
   | none => exact .inr (.inl rfl)
   | some b =>
    rw [hd1, hd2] at h4
    exact .inr (.inr (fun e => by cases e; simp at h4))

def DOps (P : Program) (ty : TyT) (V : View) (σ0 : Store) (N : Nat) (ops : Array Oper) (m : Nat) (Q : St → Prop) : List Nat → List (Nat × AV) → List (List AV) → Store → Prop
 | [], T, L, σ => ∃ T', Same T T' ∧ Q ⟨T', L, σ⟩
 | i :: l, T, L, σ => if i < m then ∃ o, ops[i]? = some o ∧ yJ N o.dst = true ∧ UStep P ty V ops o (DOps P ty V σ0 N ops m Q l) T L σ
  else ∃ T', Same T T' ∧ AOps P σ0 N ops Q (i :: l) ⟨T', L, σ⟩

variable {σ0 : Store} {N m : Nat} {Q : St → Prop}
theorem yeF : ∀ l, Closed (DOps P ty V σ0 N ops m Q l)
 | [] => fun T T' L σ hs ⟨T2, h1, h2⟩ => ⟨T2, fun t => (hs t).symm.trans (h1 t), h2⟩
 | i :: l => fun T T' L σ hs h => by
  simp only [DOps] at h ⊢
  split at h
  ·rw [if_pos ‹_›]
   obtain ⟨o, h1, h2, h3⟩ := h
   exact ⟨o, h1, h2, ydB (yeF l) _ _ _ _ hs h3⟩
  ·rw [if_neg ‹_›]
   obtain ⟨T2, h1, h2⟩ := h
   exact ⟨T2, fun t => (hs t).symm.trans (h1 t), h2⟩

theorem ycB {i : Nat} {oi : Oper} (hi : ops[i]? = some oi) (him : i < m) {c2 : List Nat} : ∀ (c1 : List Nat), (∀ k, k ∈ c1 → k < m ∧ ∀ ok, ops[k]? = some ok → Zp ops ok oi = true) →
  ∀ {T : List (Nat × AV)} {L : List (List AV)} {σ : Store}, DOps P ty V σ0 N ops m Q (c1 ++ i :: c2) T L σ → DOps P ty V σ0 N ops m Q (i :: (c1 ++ c2)) T L σ
 | [], _, T, L, σ, h => h
 | k :: c1, hk, T, L, σ, h => by
  have hkm := hk k (by simp)
  simp only [List.cons_append, DOps, if_pos hkm.1, if_pos him] at h ⊢
  obtain ⟨ok, h1, h2, h3⟩ := h
  have ih : ∀ T L σ, DOps P ty V σ0 N ops m Q (c1 ++ i :: c2) T L σ → DOps P ty V σ0 N ops m Q (i :: (c1 ++ c2)) T L σ := fun T L σ => ycB hi him c1 (fun k hk' => hk k (by simp [hk']))
  have h4 := Zv ih h3
  -- the front one's own part
  have h5 : yJ N oi.dst = true ∧ UStep P ty V ops ok (UStep P ty V ops oi (DOps P ty V σ0 N ops m Q (c1 ++ c2))) T L σ := by
   obtain ⟨e, g, hx⟩ := h4
   obtain ⟨x, L1, σ1, hy⟩ := ydu hx
   simp only [DOps, if_pos him] at hy
   obtain ⟨o', a1, a2, _⟩ := hy
   rw [hi] at a1; cases a1
   refine ⟨a2, e, g, YV (fun x L σ q => ?_) hx⟩
   simp only [DOps, if_pos him] at q
   obtain ⟨o', b1, b2, b3⟩ := q
   rw [hi] at b1; cases b1
   exact b3
  refine ⟨oi, hi, h5.1, ?_⟩
  refine Zv (fun T L σ q => ⟨ok, h1, h2, q⟩) (yjM (hkm.2 ok h1) (yeF _) h5.2)

structure Compat (V : View) (L : List (List AV)) (σ : Store) : Prop where
 L : ∀ (i : Nat) cs, V.L[i]? = some cs → cs ≠ [] → L[i]? = some cs
 objs : ∀ (o : Nat) ob, V.objs[o]? = some ob → ob ≠ .box [] → σ.objs[o]? = some ob
 gl : σ.gl = V.gl

theorem ydk {a : Bool} {n off : Nat} {x : AV} (h : zb a n (([] : List AV).drop off) = some x) (hn : n ≠ 0) : False := by
 simp [zb] at h
 obtain ⟨_, h0, _⟩ := h
 exact hn h0

theorem yny {T : List (Nat × AV)} {L : List (List AV)} {σ : Store} (hc : Compat V L σ) (hsz : ∀ t ti, ty t = some ti → ti.size ≠ 0) : ∀ t ti x, ∀ y, ty t = some ti → Yi (V.st T) ti x = some y → Yi ⟨T, L, σ⟩ ti x = some y := by
 intro t ti x y hti h
 unfold Yi at h ⊢
 split at h
 ·exact h
 ·rename_i i ad
  obtain ⟨cs, h1, h2⟩ := Option.bind_eq_some_iff.1 h
  by_cases h0 : cs = []
  ·subst h0; exact (ydk h2 (hsz _ _ hti)).elim
  ·simp only [hc.L i cs h1 h0]; exact h2
 ·rename_i ob ad
  split at h
  ·rename_i cs h1
   by_cases h0 : cs = []
   ·subst h0; exact (ydk h (hsz _ _ hti)).elim
   ·simp only [hc.objs ob _ h1 (fun e => h0 (by injection e))]; exact h
  ·rename_i e0 sz cap xs h1
   simp only [hc.objs ob _ h1 (fun e => by cases e)]; exact h
  ·rename_i cs h1
   simp only [hc.objs ob _ h1 (fun e => by cases e)]; exact h
  ·cases h
 ·exact h
 ·cases h

theorem ym4 {T : List (Nat × AV)} {L : List (List AV)} {σ : Store} (hc : Compat V L σ) {t : TypeId} {m k x : AV} {ok : Bool} (h : Yx ty (V.st T) t m k ok = some x) : Yx ty ⟨T, L, σ⟩ t m k ok = some x := by
 have hm : ∀ y, yay (V.st T) m = some y → yay ⟨T, L, σ⟩ m = some y := by
  intro y hy
  unfold yay at hy ⊢
  split at hy
  ·rename_i o
   split at hy
   ·rename_i ks vs ho
    simp only [hc.objs o _ ho (fun e => by cases e)]; exact hy
   ·cases hy
  ·exact hy
  ·exact hy
  ·cases hy
 unfold Yx at h ⊢
 split at h
 ·split at h
  ·split at h
   ·rename_i e1 e2 e3
    simp only [e1, hm _ e2, e3]
    exact h
   ·cases h
  ·cases h
 ·cases h

theorem ylu {T : List (Nat × AV)} {L : List (List AV)} {σ : Store} (hc : Compat V L σ) (hsz : ∀ t ti, ty t = some ti → ti.size ≠ 0) {op : Op} {x : AV} (h : Yg ty (V.st T) op = some x) : Yg ty ⟨T, L, σ⟩ op = some x :=
 ydQ (s := V.st T) (s' := ⟨T, L, σ⟩) (fun _ _ => rfl) hc.gl.symm (yny hc hsz) h

theorem YQ {T : List (Nat × AV)} {L : List (List AV)} {σ : Store} (hc : Compat V L σ) (y : Operand) : ev ⟨T, L, σ⟩ y = ev (V.st T) y :=
 (yfg (s := V.st T) (s' := ⟨T, L, σ⟩) (xs := #[y]) (by simp) (fun _ _ => rfl) hc.gl.symm).symm

theorem Compat.lay {L : List (List AV)} {σ : Store} (hc : Compat V L σ) (cs : List AV) : Compat V (L ++ [cs]) σ :=
 ⟨fun i ds h1 h2 => yL (hc.L i ds h1 h2), hc.objs, hc.gl⟩

theorem ylZ (hty : TyOk P ty) (hsz : ∀ t ti, ty t = some ti → ti.size ≠ 0) {T : List (Nat × AV)} {L : List (List AV)} {σ : Store} {o : Oper} {e : Eff} (hc : Compat V L σ) (he : YA ty (V.st T) o = some e) (hd : yJ N o.dst = true)
  {next : List (Nat × AV) → List (List AV) → Store → Prop} (hx : YB P V e (fun x L σ => next (putT T o.dst x) L σ) L σ) :
  AOp P σ0 N o (fun s' => next s'.T s'.L s'.σ ∧ (s'.σ.gl = V.gl → Compat V s'.L s'.σ)) ⟨T, L, σ⟩ := by
 have hput : ∀ (L' : List (List AV)) (σ' : Store) (x : AV), ((⟨T, L', σ'⟩ : St).put o.dst x) = ⟨putT T o.dst x, L', σ'⟩ := by
  intro L' σ' x; cases h : o.dst <;> simp [St.put, putT]
 have hp : ∀ op, o.op = op → ZG ty (V.st T) op = some e → AOp P σ0 N o (fun s' => next s'.T s'.L s'.σ ∧ (s'.σ.gl = V.gl → Compat V s'.L s'.σ)) ⟨T, L, σ⟩ := by
  rintro op rfl h
  obtain ⟨x, hx', rfl⟩ := Option.map_eq_some_iff.1 h
  refine yfu hty (ylu hc hsz hx') hd ?_
  rw [hput]
  exact ⟨hx, fun _ => hc⟩
 unfold YA at he
 split at he
 ·rename_i el ho
  obtain ⟨ti, hti, rfl⟩ := Option.map_eq_some_iff.1 he
  refine yht hty ho hti hd ?_
  rw [hput]
  exact ⟨hx, fun _ => hc.lay _⟩
 ·rename_i el y ho
  obtain ⟨cs, hcs, rfl⟩ := Option.map_eq_some_iff.1 he
  refine yj7 ho (by rw [YQ hc]; exact hcs) hd ?_
  rw [hput]
  exact ⟨hx, fun _ => hc.lay _⟩
 ·rename_i t p y ho
  split at he
  ·rename_i ti ds i off hdst hti hds hpp
   cases he
   obtain ⟨cs, h1, h2, h3, h4, h5⟩ := hx
   refine yfU hty ho (by rw [YQ hc]; exact hpp) hti h1 (by rw [YQ hc]; exact hds) h2 h3 hd ?_
   rw [hput]
   refine ⟨h5, fun _ => ⟨fun j cs' hj hne => ?_, hc.objs, hc.gl⟩⟩
   rw [List.getElem?_set]
   split
   ·subst_vars
    exfalso
    rcases h4 with h4 | h4
    ·rw [h4] at hj; cases hj
    ·rw [h4] at hj; cases hj; exact hne rfl
   ·exact hc.L j cs' hj hne
  ·cases he
 ·rename_i c ho
  split at he
  ·rename_i p q t ha
   have ho' := ho
   have ha := ybQ ha
   rw [ha] at ho
   split at he
   ·rename_i ti hti
    split at he
    ·rename_i el hk
     split at he
     ·rename_i te ys hte hys
      split at he
      ·rename_i o1 n1 cap1 hpe
       split at he
       ·rename_i y
        split at he
        ·rename_i hcnd
         cases he
         obtain ⟨h1, h2⟩ := hx
         refine ygC hty ho hti hk hte hcnd.1 (n := n1) (y := y) (by rw [YQ hc, hpe]; exact h1) (by rw [YQ hc]; exact hys) hcnd.2.1 hcnd.2.2.1 hcnd.2.2.2 hd fun x' objs' k1 k2 => ?_
         have : (({ (⟨T, L, σ⟩ : St) with σ := { σ with objs := objs' } } : St).put o.dst x') = ⟨putT T o.dst x', L, { σ with objs := objs' }⟩ := hput L { σ with objs := objs' } x'
         rw [this]
         refine ⟨h2 x' objs' k1 k2, fun hg => ⟨hc.L, fun ob b hb hb0 => ?_, hg⟩⟩
         have hb' := hc.objs ob b hb hb0
         rcases k1 with rfl | ⟨cap, rfl⟩
         ·exact hb'
         ·exact yL hb'
        ·cases he
       ·cases he
      rename_i hnscr
      cases he
      obtain ⟨s', h1, h2⟩ := hx
      have hstep : Zk ty [] (⟨T, L, σ⟩ : St) o = some ⟨putT T o.dst (get s'.T 0), L, s'.σ⟩ := by
       have hia : zN (.call c) = some (p, q, t) := ‹_›
       simp only [Zk, ho', hia, hti, hk, hte, YQ hc, hys]
       unfold zK at h1 ⊢
       split at h1
       ·rw [if_pos ‹_›]
        split at h1
        ·rename_i hkk
         simp only [hkk]
         split at h1
         ·rename_i hkt
          simp only at hkt
          simp only [hkt]
          split at h1
          ·rw [if_pos ‹_›]
           cases h1
           cases hdd : o.dst <;> simp [St.put, putT, get]
          ·cases h1
         ·cases h1
        ·split at h1
         ·rename_i hxx
          simp only [hxx]
          split at h1
          ·rw [if_pos ‹_›]
           cases h1
           cases hdd : o.dst <;> simp [St.put, putT, get]
          ·cases h1
         ·cases h1
       ·cases h1
      refine ycA hty hstep hd ⟨h2, fun hg => ⟨hc.L, ?_, hg⟩⟩
      intro ob b hb hb0
      have : s'.σ.objs = σ.objs := by
       unfold zK at h1
       split at h1
       ·split at h1
        ·split at h1
         ·split at h1
          ·cases h1; rfl
          ·cases h1
         ·cases h1
        ·split at h1
         ·split at h1
          ·cases h1; rfl
          ·cases h1
         ·cases h1
       ·cases h1
      simp only [this]
      exact hc.objs ob b hb hb0
     ·cases he
    ·cases he
   ·cases he
  ·split at he
   ·rename_i fo hcl
    split at he
    ·rename_i f caps hf
     cases he
     obtain ⟨h2, h3, h4, _⟩ := hx
     have hargs : c.args.toList.map (ev ⟨T, L, σ⟩) = c.args.toList.map (ev (V.st T)) := List.map_congr_left fun y _ => YQ hc y
     refine ycE ho hcl (by rw [YQ hc]; exact hf) h2 (by rw [hargs]; exact h3) hd ?_
     rw [hargs]
     refine h4.mono fun r σ' q => ?_
     have : (({ (⟨T, L, σ⟩ : St) with σ := σ' } : St).put o.dst r) = ⟨putT T o.dst r, L, σ'⟩ := hput L σ' r
     rw [this]
     exact ⟨q.2, fun hg => ⟨hc.L, q.1, hg⟩⟩
    ·cases he
   ·exact hp _ ho he
 ·rename_i t m k ok ho
  obtain ⟨x, hx', rfl⟩ := Option.map_eq_some_iff.1 he
  refine yf1 hty ho (by rw [YQ hc, YQ hc]; exact ym4 hc hx') hd ?_
  rw [hput]
  exact ⟨hx, fun _ => hc⟩
 ·rename_i t ho
  cases he
  refine yeO ho hd ?_
  rw [hput]
  exact ⟨hx, fun hg => ⟨hc.L, fun ob b hb hb0 => yL (hc.objs ob b hb hb0), hg⟩⟩
 ·rename_i t len parts ho
  split at he
  ·rename_i ti hti
   split at he
   ·rename_i e hk
    split at he
    ·rename_i te hte
     split at he
     ·rename_i ps hps
      split at he
      ·rename_i hb
       cases he
       have h1 : parts.toList.map (fun p => (p.1, ev (⟨T, L, σ⟩ : St) p.2)) = parts.toList.map (fun p => (p.1, ev (V.st T) p.2)) := List.map_congr_left fun p _ => by rw [YQ hc]
       refine ycu hty ho hti hk hte (by rw [h1]; exact hps) hb.1 hb.2 hd ?_
       rw [hput]
       exact ⟨hx, fun _ => hc⟩
      ·cases he
     ·cases he
    ·cases he
   ·cases he
  ·cases he
 ·exact hp _ rfl he
end
end Go.Aw

namespace Go.Aw
open Go
section
variable {ρ : Option Nat} {P : Program} {ty : TyT} {V : View} {ops : Array Oper} {σ0 : Store} {N m : Nat} {Q : St → Prop}
theorem yeS (hty : TyOk P ty) (hsz : ∀ t ti, ty t = some ti → ti.size ≠ 0) {g0 : Ghost} {w0 w : World} {a : Act} {T : List (Nat × AV)} {L : List (List AV)} {σ : Store} {i : Nat} {o : Oper} {rest : List Nat} {next : List (Nat × AV) → List (List AV) → Store → Prop} {nx : Exit → Act → World → Prop}
  (ho : ops[i]? = some o) (hd : yJ N o.dst = true) (h : UStep P ty V ops o next T L σ) (hc : Compat V L σ) (hgl : V.gl = σ0.gl) (r : Rel g0 σ0 w0 N ⟨T, L, σ⟩ a w)
  (k : ∀ T' L' σ' a' w', next T' L' σ' → Compat V L' σ' → Rel g0 σ0 w0 N ⟨T', L', σ'⟩ a' w' → opsW P ops nx rest a' w') : opsW P ops nx (i :: rest) a w := by
 obtain ⟨e, g, hx⟩ := h
 have run : YA ty (V.st T) o = some e → opW P o a w (opsW P ops nx rest) nx := by
  intro he
  refine ylZ (σ0 := σ0) (N := N) hty hsz hc he hd hx g0 w0 a w _ _ r fun s' a' w' q r' => ?_
  obtain ⟨g', r''⟩ := r'
  exact k s'.T s'.L s'.σ a' w' q.1 (q.2 (r''.1.gl.trans hgl.symm)) ⟨g', r''⟩
 simp only [opsW, ho]
 cases g with
 | plain hg he =>
  rw [if_pos (by simp [Region.wanted, hg])]
  exact .inl (run he)
 | yes hg hb he =>
  obtain ⟨gh, r'⟩ := r
  unfold y9 at hg
  cases hgo : o.guard with
  | none => rw [hgo] at hg; cases hg
  | some p =>
   obtain ⟨j, w2⟩ := p
   rw [hgo] at hg
   obtain ⟨d', h1, h2⟩ := Option.map_eq_some_iff.1 hg
   cases h2
   have hy := yc6 r' h1 hb
   rw [if_pos (by simp [Region.wanted, hgo, hy])]
   exact .inl (run he)
 | no hg hb =>
  obtain ⟨gh, r'⟩ := r
  unfold y9 at hg
  cases hgo : o.guard with
  | none => rw [hgo] at hg; cases hg
  | some p =>
   obtain ⟨j, w2⟩ := p
   rw [hgo] at hg
   obtain ⟨d', h1, h2⟩ := Option.map_eq_some_iff.1 hg
   cases h2
   have hy := yey r' h1 hb
   rw [if_neg (by simpa [Region.wanted, hgo] using hy)]
   have hput : ((⟨T, L, σ⟩ : St).put o.dst (.tuple [])) = ⟨putT T o.dst (.tuple []), L, σ⟩ := by cases h : o.dst <;> simp [St.put, putT]
   have r2 := r'.put yiz hd
   rw [hput] at r2
   exact k _ _ _ _ _ hx hc ⟨gh, r2⟩


def edges (ops : Array Oper) (mode : Region.Mode) (i : Nat) : List Nat :=
 match ops[i]? with
 | some o => (o.after.toList.filter fun e => Region.binds mode e).map (·.on)
 | none => []

def precs (ops : Array Oper) : Nat → Nat → List Nat
 | 0, _ => []
 | f + 1, i => edges ops .any i ++ (edges ops .any i).flatMap (precs ops f)

def zL (ops : Array Oper) (mode : Region.Mode) : Bool :=
 let ord := Region.linearise mode ops 0
 (List.range ops.size).all fun i => ord.contains i && (edges ops mode i).all fun j => decide (ord.idxOf j < ord.idxOf i) && decide (j < ops.size)

def Y5 (ops : Array Oper) (m : Nat) : Bool :=
 zL ops .any && zL ops .text && zL ops .gc &&
 (List.range ops.size).all fun i =>
  let p := precs ops ops.size i
  (List.range i).all fun k => p.contains k || (decide (i < m) && (match ops[k]?, ops[i]? with | some ok, some oi => Zp ops ok oi | _, _ => false))

theorem yhp {mode : Region.Mode} {e : Edge} (h : Region.binds .any e = true) : Region.binds mode e = true := by
 unfold Region.binds at h ⊢
 split at h
 ·simp at h
 ·simp at h
 ·rfl

structure Listed (ops : Array Oper) (listed : Array Bool) : Prop where
 size : listed.size = ops.size
 down : ∀ j, listed.getD j false = true → ∀ k, k ∈ edges ops .any j → listed.getD k false = true

def left (ops : Array Oper) (listed : Array Bool) : List Nat := (List.range ops.size).filter fun i => !listed.getD i true

theorem ZC {listed : Array Bool} {i : Nat} (h : Listed ops listed) : i ∈ left ops listed ↔ i < ops.size ∧ listed.getD i false = false := by
 simp only [left, List.mem_filter, List.mem_range, Bool.not_eq_true']
 constructor
 ·rintro ⟨h1, h2⟩
  have : i < listed.size := by rw [h.size]; exact h1
  refine ⟨h1, ?_⟩
  simp only [Array.getD_eq_getD_getElem?, Array.getElem?_eq_getElem this, Option.getD_some] at h2 ⊢
  exact h2
 ·rintro ⟨h1, h2⟩
  have : i < listed.size := by rw [h.size]; exact h1
  refine ⟨h1, ?_⟩
  simp only [Array.getD_eq_getD_getElem?, Array.getElem?_eq_getElem this, Option.getD_some] at h2 ⊢
  exact h2

theorem ybc {listed : Array Bool} (h : Listed ops listed) : ∀ (f i : Nat), (∀ k, k ∈ edges ops .any i → listed.getD k false = true) → ∀ k, k ∈ precs ops f i → listed.getD k false = true
 | 0, _, _, k, hk => by simp [precs] at hk
 | f + 1, i, hi, k, hk => by
  simp only [precs, List.mem_append, List.mem_flatMap] at hk
  rcases hk with hk | ⟨j, hj, hk⟩
  ·exact hi k hk
  ·exact ybc h f j (h.down j (hi j hj)) k hk

theorem yhc {mode : Region.Mode} {listed : Array Bool} (h : Listed ops listed) {i : Nat} :
  (i ∈ (List.range ops.size).filter fun i => !listed.getD i true && ((ops[i]?).map (·.after.all fun e => !Region.binds mode e || listed.getD e.on false)).getD false) ↔ i ∈ left ops listed ∧ ∀ k, k ∈ edges ops mode i → listed.getD k false = true := by
 simp only [left, List.mem_filter, List.mem_range, Bool.and_eq_true]
 constructor
 ·rintro ⟨h1, h2, h3⟩
  refine ⟨⟨h1, h2⟩, fun k hk => ?_⟩
  simp only [edges, Array.getElem?_eq_getElem h1, List.mem_map, List.mem_filter] at hk
  obtain ⟨e, ⟨he, hb⟩, rfl⟩ := hk
  simp only [Array.getElem?_eq_getElem h1, Option.map_some, Option.getD_some, Array.all_eq_true] at h3
  obtain ⟨j, hj, rfl⟩ := List.getElem_of_mem he
  have := h3 j (by simpa using hj)
  simp only [Array.getElem_toList, Bool.or_eq_true, Bool.not_eq_true'] at this hb ⊢
  rcases this with this | this
  ·rw [hb] at this; cases this
  ·exact this
 ·rintro ⟨⟨h1, h2⟩, h3⟩
  refine ⟨h1, h2, ?_⟩
  simp only [Array.getElem?_eq_getElem h1, Option.map_some, Option.getD_some, Array.all_eq_true]
  intro j hj
  simp only [Bool.or_eq_true, Bool.not_eq_true']
  cases hb : Region.binds mode ops[i].after[j] with
  | false => exact .inl rfl
  | true =>
   refine .inr (h3 _ ?_)
   simp only [edges, Array.getElem?_eq_getElem h1, List.mem_map, List.mem_filter]
   exact ⟨ops[i].after[j], ⟨by simp, hb⟩, rfl⟩

theorem yfR {mode : Region.Mode} (hg : zL ops mode = true) {listed : Array Bool} (h : Listed ops listed) (hne : left ops listed ≠ []) :
  ∃ i, i ∈ left ops listed ∧ ∀ k, k ∈ edges ops mode i → listed.getD k false = true := by
 simp only [zL, List.all_eq_true, List.mem_range, Bool.and_eq_true, decide_eq_true_eq] at hg
 -- the one that comes first in an order of the mode
 have : ∀ n, ∀ i, i ∈ left ops listed → (Region.linearise mode ops 0).idxOf i ≤ n → ∃ i, i ∈ left ops listed ∧ ∀ k, k ∈ edges ops mode i → listed.getD k false = true := by
  intro n
  induction n using Nat.strongRecOn with
  | _ n ih =>
   intro i hi hn
   by_cases hall : ∀ k, k ∈ edges ops mode i → listed.getD k false = true
   ·exact ⟨i, hi, hall⟩
   ·obtain ⟨k, hk⟩ := Classical.not_forall.1 hall
    obtain ⟨hk1, hk2⟩ := Classical.not_imp.1 hk
    have h1 := (hg i ((ZC h).1 hi).1).2 k hk1
    exact ih _ (Nat.lt_of_lt_of_le h1.1 hn) k ((ZC h).2 ⟨h1.2, by simpa using hk2⟩) (Nat.le_refl _)
 obtain ⟨i, hi⟩ := List.exists_mem_of_ne_nil _ hne
 exact this _ i hi (Nat.le_refl _)

theorem yeK {mode : Region.Mode} {listed : Array Bool} (h : Listed ops listed) {i : Nat} (hi : i ∈ left ops listed) (hp : ∀ k, k ∈ edges ops mode i → listed.getD k false = true) :
  Listed ops (listed.setIfInBounds i true) ∧ ∃ c1 c2, left ops listed = c1 ++ i :: c2 ∧ left ops (listed.setIfInBounds i true) = c1 ++ c2 ∧ (∀ k, k ∈ c1 → k < i) ∧ ∀ k, k ∈ c1 → k ∉ precs ops ops.size i := by
 have hlt := ((ZC h).1 hi).1
 have hls : i < listed.size := by rw [h.size]; exact hlt
 have hget : ∀ j b, (listed.setIfInBounds i true).getD j b = if i = j then true else listed.getD j b := by
  intro j b
  simp only [Array.getD_eq_getD_getElem?, Array.getElem?_setIfInBounds]
  split
  ·rename_i he; subst he; simp [hls]
  ·rfl
 have hpa : ∀ k, k ∈ edges ops .any i → listed.getD k false = true := by
  intro k hk
  refine hp k ?_
  unfold edges at hk ⊢
  split at hk
  ·simp only [List.mem_map, List.mem_filter] at hk ⊢
   obtain ⟨e, ⟨he, hb⟩, rfl⟩ := hk
   exact ⟨e, ⟨he, yhp hb⟩, rfl⟩
  ·exact hk
 have hl' : Listed ops (listed.setIfInBounds i true) := by
  refine ⟨by simp [h.size], fun j hj k hk => ?_⟩
  rw [hget] at hj ⊢
  split
  ·rfl
  ·split at hj
   ·subst_vars; exact hpa k hk
   ·exact h.down j hj k hk
 obtain ⟨c1, c2, hc⟩ := List.append_of_mem hi
 have hsorted : (left ops listed).Pairwise (· < ·) := List.Pairwise.filter _ List.pairwise_lt_range
 rw [hc] at hsorted
 have hs := List.pairwise_append.1 hsorted
 have hc1 : ∀ k, k ∈ c1 → k < i := fun k hk => hs.2.2 k hk i (by simp)
 have hc2 : ∀ k, k ∈ c2 → i < k := fun k hk => (List.pairwise_cons.1 hs.2.1).1 k hk
 refine ⟨hl', c1, c2, hc, ?_, hc1, fun k hk hm => ?_⟩
 ·have : left ops (listed.setIfInBounds i true) = (left ops listed).filter (fun j => j != i) := by
   simp only [left, List.filter_filter]
   apply List.filter_congr
   intro j _
   rw [hget]
   by_cases he : i = j
   ·subst he; simp
   ·simp only [if_neg he]
    have : (j != i) = true := by simp; exact fun e => he e.symm
    rw [this]; simp
  rw [this, hc, List.filter_append, List.filter_cons]
  have e1 : c1.filter (fun j => j != i) = c1 := List.filter_eq_self.2 (fun k hk => by have := hc1 k hk; simp; omega)
  have e2 : c2.filter (fun j => j != i) = c2 := List.filter_eq_self.2 (fun k hk => by have := hc2 k hk; simp; omega)
  simp [e1, e2]
 ·have h1 := ybc h ops.size i hpa k hm
  have h2 := ((ZC (i := k) h).1 (by rw [hc]; simp [hk])).2
  rw [h1] at h2; cases h2

theorem yqi (hty : TyOk P ty) (hsz : ∀ t ti, ty t = some ti → ti.size ≠ 0) {mode : Region.Mode} (bad : Nat → Nat → Prop)
  (hsw : ∀ i, i < ops.size → ∀ k, k < i → k ∈ precs ops ops.size i ∨ (i < m ∧ ((match ops[k]?, ops[i]? with | some ok, some oi => Zp ops ok oi | _, _ => false) = true ∨ bad k i))) (hg : zL ops mode = true) {g0 : Ghost} {w0 : World} {nx : Exit → Act → World → Prop} (hgl : V.gl = σ0.gl)
  (hnx : ∀ s' a' w', Q s' → Rel g0 σ0 w0 N s' a' w' → nx .normal a' w') : ∀ (fuel t : Nat) (listed : Array Bool) (acc : List Nat), Listed ops listed → (∀ k i, bad k i → k ∈ left ops listed → i ∈ left ops listed → False) → (left ops listed).length = fuel →
   ∃ rest, Region.linearise.go mode ops fuel t listed acc = acc.reverse ++ rest ∧ ((∀ k, k ∈ left ops listed → m ≤ k) → rest = left ops listed) ∧
    ∀ T L σ a w, DOps P ty V σ0 N ops m Q (left ops listed) T L σ → Compat V L σ → Rel g0 σ0 w0 N ⟨T, L, σ⟩ a w → opsW P ops nx rest a w := by
 have hself : ∀ {T T' : List (Nat × AV)} {L : List (List AV)} {σ : Store} {a : Act} {w : World}, Same T T' → Rel g0 σ0 w0 N ⟨T, L, σ⟩ a w → Rel g0 σ0 w0 N ⟨T', L, σ⟩ a w := by
  rintro T T' L σ a w hs ⟨g, h1, h2, h3, h4, h5⟩
  refine ⟨g, h1, h2, h3, h4, fun t => ?_⟩
  have := h5 t
  simp only at this ⊢
  rw [← hs t]; exact this
 intro fuel
 induction fuel with
 | zero =>
  intro t listed acc hl hbad hlen
  have he : left ops listed = [] := List.eq_nil_of_length_eq_zero hlen
  refine ⟨[], by simp [Region.linearise.go], fun _ => he.symm, fun T L σ a w hd hc r => ?_⟩
  rw [he] at hd
  obtain ⟨T', h1, h2⟩ := hd
  exact hnx _ _ _ h2 (hself h1 r)
 | succ fuel ih =>
  intro t listed acc hl hbad hlen
  have hne : left ops listed ≠ [] := by intro e; rw [e] at hlen; simp at hlen
  obtain ⟨i0, hi0, hp0⟩ := yfR hg hl hne
  simp only [Region.linearise.go]
  generalize hrs : ((List.range ops.size).filter fun i => !listed.getD i true && ((ops[i]?).map (·.after.all fun e => !Region.binds mode e || listed.getD e.on false)).getD false) = rs
  have hmem : ∀ i, i ∈ rs ↔ i ∈ left ops listed ∧ ∀ k, k ∈ edges ops mode i → listed.getD k false = true := by
   intro i; rw [← hrs]; exact yhc hl
  have hpos : 0 < rs.length := List.length_pos_iff.2 (fun e => by have := (hmem i0).2 ⟨hi0, hp0⟩; rw [e] at this; simp at this)
  have hlt : t % rs.length < rs.length := Nat.mod_lt _ hpos
  rw [List.getElem?_eq_getElem hlt]
  simp only
  have hi := (hmem _).1 (List.getElem_mem hlt)
  generalize rs[t % rs.length] = i at hi
  obtain ⟨hl', c1, c2, hc, hc', hc1, hcp⟩ := yeK hl hi.1 hi.2
  have hilt := ((ZC hl).1 hi.1).1
  obtain ⟨rest, h1, h2, h3⟩ := ih (t / rs.length) (listed.setIfInBounds i true) (i :: acc) hl' (fun k j hb h1 h2 => hbad k j hb (by rw [hc]; rw [hc'] at h1; simp at h1 ⊢; rcases h1 with h | h <;> simp [h]) (by rw [hc]; rw [hc'] at h2; simp at h2 ⊢; rcases h2 with h | h <;> simp [h])) (by rw [hc']; rw [hc] at hlen; simp at hlen ⊢; omega)
  have hsw := hsw i hilt
  have htail : m ≤ i → c1 = [] := by
   intro hm
   match c1, hc1, hcp with
   | [], _, _ => rfl
   | k :: _, hc1, hcp =>
    exfalso
    rcases hsw k (hc1 k (by simp)) with h | h
    ·exact hcp k (by simp) h
    ·omega
  refine ⟨i :: rest, by rw [h1]; simp, fun hall => ?_, fun T L σ a w hd hcm r => ?_⟩
  ·have hm := hall i hi.1
   have := htail hm
   subst this
   rw [h2 (fun k hk => by rw [hc'] at hk; exact hall k (by rw [hc]; simp at hk ⊢; exact .inr hk)), hc', hc]
   rfl
  ·rw [hc] at hd
   by_cases him : i < m
   ·obtain ⟨oi, hoi⟩ : ∃ o, ops[i]? = some o := ⟨ops[i], by simp [hilt]⟩
    have hfr := ycB (P := P) (ty := ty) (V := V) (σ0 := σ0) (N := N) (Q := Q) hoi him (c2 := c2) c1 (fun k hk => by
     refine ⟨by have := hc1 k hk; omega, fun ok hok' => ?_⟩
     rcases hsw k (hc1 k hk) with h | ⟨_, h | h⟩
     ·exact absurd h (hcp k hk)
     ·rw [hok', hoi] at h; exact h
     ·exact (hbad k i h (by rw [hc]; simp [hk]) hi.1).elim) hd
    simp only [DOps, if_pos him] at hfr
    obtain ⟨o, k1, k2, k3⟩ := hfr
    rw [hoi] at k1; cases k1
    refine yeS hty hsz hoi k2 k3 hcm hgl r fun T' L' σ' a' w' q qc qr => ?_
    rw [hc'] at h3
    exact h3 T' L' σ' a' w' q qc qr
   ·have hm : m ≤ i := by omega
    have hc1' := htail hm
    subst hc1'
    simp only [List.nil_append, DOps, if_neg him] at hd
    obtain ⟨T', k1, k2⟩ := hd
    have hall : ∀ k, k ∈ left ops (listed.setIfInBounds i true) → m ≤ k := by
     intro k hk
     rw [hc'] at hk
     have hsorted : (left ops listed).Pairwise (· < ·) := List.Pairwise.filter _ List.pairwise_lt_range
     rw [hc] at hsorted
     have := (List.pairwise_cons.1 hsorted).1 k hk
     omega
    have := h2 hall
    rw [hc'] at this
    simp only [List.nil_append] at this
    subst this
    exact k2 g0 w0 a w nx (hself k1 r) hnx

theorem ynb {bad : Nat → Nat → Prop} (hok : Y5 ops m = true) : ∀ i, i < ops.size → ∀ k, k < i → k ∈ precs ops ops.size i ∨ (i < m ∧ ((match ops[k]?, ops[i]? with | some ok, some oi => Zp ops ok oi | _, _ => false) = true ∨ bad k i)) := by
 simp only [Y5, Bool.and_eq_true, List.all_eq_true, List.mem_range, Bool.or_eq_true, decide_eq_true_eq] at hok
 intro i hi k hk
 rcases hok.2 i hi k hk with h | h
 ·exact .inl (by simpa using h)
 ·exact .inr ⟨h.1, .inl h.2⟩

theorem ynI {id : Nat} {QQ : Exit → St → Prop} {s : St} (hty : TyOk P ty) (hsz : ∀ t ti, ty t = some ti → ti.size ≠ 0) (m : Nat) (V : View) (hok : Y5 ops m = true) (hgl : V.gl = s.σ.gl) (hc : (∀ (i : Nat) cs, V.L[i]? = some cs → cs ≠ [] → s.L[i]? = some cs) ∧ ∀ (o : Nat) ob, V.objs[o]? = some ob → ob ≠ .box [] → s.σ.objs[o]? = some ob)
  (h : DOps P ty V σ0 N ops m (QQ .normal) (List.range ops.size) s.T s.L s.σ) : AWpR ρ P σ0 N (.region id ops true) QQ s := by
 rintro g0 w0 a w ⟨g, r⟩
 have hgl' : V.gl = σ0.gl := hgl.trans r.1.gl
 refine wpIn_region_draw fun t => opsW.wpIn _ ?_
 have hl0 : Listed ops (Array.replicate ops.size false) := by
  refine ⟨by simp, fun j hj => ?_⟩
  simp only [Array.getD_eq_getD_getElem?, Array.getElem?_replicate] at hj
  split at hj <;> simp at hj
 have hleft : left ops (Array.replicate ops.size false) = List.range ops.size := by
  simp only [left]
  refine List.filter_eq_self.2 (fun i hi => ?_)
  simp only [List.mem_range] at hi
  simp [Array.getD_eq_getD_getElem?, Array.getElem?_replicate, hi]
 have hr : RelG g0 σ0 w0 N g s a { w with drawn := w.drawn + 1 } := by
  have k := r.2.1.drewN (w' := { w with drawn := w.drawn + 1 }) rfl
  exact r.later (σ' := s.σ) (L' := s.L) k.2 (fun _ _ h => h) k.1 rfl rfl (fun _ _ => rfl) (Nat.le_refl _) rfl rfl rfl
 have go : ∀ (mode : Region.Mode) (t : Nat), zL ops mode = true → opsW P ops (lift g0 σ0 w0 N QQ) (Region.linearise mode ops t) a { w with drawn := w.drawn + 1 } := by
  intro mode t hg
  obtain ⟨rest, h1, _, h3⟩ := yqi (P := P) (V := V) (σ0 := σ0) (N := N) (Q := QQ .normal) hty hsz (mode := mode) (fun _ _ => False) (ynb hok) hg (g0 := g0) (w0 := w0) (nx := lift g0 σ0 w0 N QQ) hgl' (fun s' a' w' q r' => ⟨s', q, r'⟩) ops.size t (Array.replicate ops.size false) [] hl0 (fun _ _ h => h.elim) (by rw [hleft]; simp)
  rw [Region.linearise, h1]
  rw [hleft] at h3
  exact h3 s.T s.L s.σ a _ h ⟨hc.1, hc.2, hgl.symm⟩ ⟨g, hr⟩
 have hok' := hok
 simp only [Y5, Bool.and_eq_true] at hok'
 unfold Region.schedule
 split
 ·exact go .any t hok'.1.1.1
 ·split
  ·exact go .text _ hok'.1.1.2
  ·exact go .gc _ hok'.1.2
end
end Go.Aw

namespace Go.Aw
open Go
def yh0 (s : St) : View := ⟨s.L, [], s.σ.gl⟩
def yaF (s : St) : View := ⟨s.L, s.σ.objs, s.σ.gl⟩

section
variable {ρ : Option Nat} {P : Program} {ty : TyT} {V : View} {ops : Array Oper} {σ0 : Store} {N m : Nat} {Q K : St → Prop} {s s' : St} {os : List Oper} {o : Oper}
def UL (P : Program) (ty : TyT) (V : View) (N : Nat) (ops : Array Oper) : List Oper → (St → Prop) → St → Prop
 | [], K, s => K s
 | o :: us, K, s => yJ N o.dst = true ∧ UStep P ty V ops o (fun T L σ => UL P ty V N ops us K ⟨T, L, σ⟩) s.T s.L s.σ

theorem yfC {QQ : St → Prop} : ∀ (us : List Oper) (is : List Nat) (s : St), is.map (ops[·]?) = us.map some → (∀ i, i ∈ is → i < m) → ∀ (js : List Nat) (j0 : Nat), js.head? = some j0 → m ≤ j0 →
  UL P ty V N ops us (fun s => AOps P σ0 N ops QQ js s) s → DOps P ty V σ0 N ops m QQ (is ++ js) s.T s.L s.σ
 | [], is, s, h, _, js, j0, hj, hm, k => by
  have : is = [] := by simpa using h
  subst this
  cases js with
  | nil => simp at hj
  | cons j js =>
   simp at hj; subst hj
   simp only [List.nil_append, DOps]
   rw [if_neg (by omega)]
   exact ⟨s.T, fun _ => rfl, k⟩
 | o :: us, is, s, h, hi, js, j0, hj, hm, k => by
  cases is with
  | nil => simp at h
  | cons i is =>
   simp only [List.map_cons, List.cons.injEq] at h
   simp only [List.cons_append, DOps]
   rw [if_pos (hi i (by simp))]
   refine ⟨o, h.1, k.1, Zv (fun T L σ q => ?_) k.2⟩
   exact yfC us is ⟨T, L, σ⟩ h.2 (fun i h => hi i (by simp [h])) js j0 hj hm q

theorem yg5 {QQ : St → Prop} : ∀ (us : List Oper) (is : List Nat) (s : St), is.map (ops[·]?) = us.map some → (∀ i, i ∈ is → i < m) →
  UL P ty V N ops us QQ s → DOps P ty V σ0 N ops m QQ is s.T s.L s.σ
 | [], is, s, h, _, k => by
  have : is = [] := by simpa using h
  subst this
  exact ⟨s.T, fun _ => rfl, k⟩
 | o :: us, is, s, h, hi, k => by
  cases is with
  | nil => simp at h
  | cons i is =>
   simp only [List.map_cons, List.cons.injEq] at h
   simp only [DOps]
   rw [if_pos (hi i (by simp))]
   refine ⟨o, h.1, k.1, Zv (fun T L σ q => ?_) k.2⟩
   exact yg5 us is ⟨T, L, σ⟩ h.2 (fun i h => hi i (by simp [h])) q

theorem ybs {id : Nat} {QQ : Exit → St → Prop} (hty : TyOk P ty) (hsz : ∀ t ti, ty t = some ti → ti.size ≠ 0) (m : Nat) (V : View) (hok : Y5 ops m = true) (hm : m < ops.size) (hgl : V.gl = s.σ.gl) (hc : (∀ (i : Nat) cs, V.L[i]? = some cs → cs ≠ [] → s.L[i]? = some cs) ∧ ∀ (o : Nat) ob, V.objs[o]? = some ob → ob ≠ .box [] → s.σ.objs[o]? = some ob)
  (h : UL P ty V N ops (ops.toList.take m) (fun s => AOpsL P σ0 N ops (ops.toList.drop m) (QQ .normal) s) s) : AWpR ρ P σ0 N (.region id ops true) QQ s := by
 refine ynI hty hsz m V hok hgl hc ?_
 have hr : List.range ops.size = List.range m ++ (List.range ops.size).drop m := by
  rw [← List.take_append_drop m (List.range ops.size)]
  congr 1
  ·rw [List.take_range, Nat.min_eq_left (by omega)]
  ·rw [List.take_append_drop]
 have hall : (List.range ops.size).map (ops[·]?) = ops.toList.map some := by
  apply List.ext_getElem?
  intro i
  simp only [List.getElem?_map]
  by_cases hi : i < ops.size
  ·simp [hi]
  ·rw [List.getElem?_eq_none (by simpa using hi), List.getElem?_eq_none (by simpa using hi)]; rfl
 rw [hr]
 refine yfC (ops.toList.take m) (List.range m) s ?_ (fun i hi => List.mem_range.1 hi) _ m ?_ (Nat.le_refl _) ?_
 ·have := congrArg (List.take m) hall
  rw [← List.map_take, ← List.map_take, List.take_range, Nat.min_eq_left (by omega)] at this
  exact this
 ·rw [List.head?_drop]; simp [hm]
 ·have hd : ((List.range ops.size).drop m).map (ops[·]?) = (ops.toList.drop m).map some := by
   have := congrArg (List.drop m) hall
   rw [← List.map_drop, ← List.map_drop] at this
   exact this
  have : ∀ (us : List Oper) (s : St), UL P ty V N ops us (fun s => AOpsL P σ0 N ops (ops.toList.drop m) (QQ .normal) s) s → UL P ty V N ops us (fun s => AOps P σ0 N ops (QQ .normal) ((List.range ops.size).drop m) s) s := by
   intro us
   induction us with
   | nil => exact fun s k => k _ hd
   | cons o us ih => exact fun s k => ⟨k.1, Zv (fun T L σ q => ih ⟨T, L, σ⟩ q) k.2⟩
  exact this _ _ h

theorem Yq {id : Nat} {QQ : Exit → St → Prop} (hty : TyOk P ty) (hsz : ∀ t ti, ty t = some ti → ti.size ≠ 0) (m : Nat) (hok : Y5 ops m = true) (hm : m < ops.size)
  (h : UL P ty (yh0 s) N ops (ops.toList.take m) (fun s => AOpsL P σ0 N ops (ops.toList.drop m) (QQ .normal) s) s) : AWpR ρ P σ0 N (.region id ops true) QQ s :=
 ybs hty hsz m (yh0 s) hok hm rfl ⟨fun i cs h _ => h, fun o ob h _ => by simp [yh0] at h⟩ h

theorem yG {id : Nat} {QQ : Exit → St → Prop} (hty : TyOk P ty) (hsz : ∀ t ti, ty t = some ti → ti.size ≠ 0) (m : Nat) (hok : Y5 ops m = true) (hm : m < ops.size)
  (h : UL P ty (yaF s) N ops (ops.toList.take m) (fun s => AOpsL P σ0 N ops (ops.toList.drop m) (QQ .normal) s) s) : AWpR ρ P σ0 N (.region id ops true) QQ s :=
 ybs hty hsz m (yaF s) hok hm rfl ⟨fun i cs h _ => h, fun o ob h _ => h⟩ h

theorem yF (h : K s) : UL P ty V N ops [] K s := h

def zh (s : St) (dst : Option Tmp) (e : Eff) : Option St :=
 match e with
 | .pure x => some ⟨putT s.T dst x, s.L, s.σ⟩
 | .box cs => some ⟨putT s.T dst (.lptr s.L.length 0), s.L ++ [cs], s.σ⟩
 | .append e te x ys => match zK ⟨[], s.L, s.σ⟩ (some 0) e te x ys with
  | some s' => some ⟨putT s.T dst (get s'.T 0), s.L, s'.σ⟩
  | none => none
 | .storeL i off ti ds => match s.L[i]? with
  | some cs => if ds.length = ti.size ∧ off + ds.length ≤ cs.length then some ⟨putT s.T dst .junk, s.L.set i (overlay cs off ds), s.σ⟩ else none
  | none => none
 | .mk => some ⟨putT s.T dst (.map s.σ.objs.length), s.L, { s.σ with objs := s.σ.objs ++ [.map [] []] }⟩
 | _ => none

def ydF (V : View) : Eff → Bool
 | .storeL i _ _ _ => match V.L[i]? with
  | none => true
  | some [] => true
  | some _ => false
 | _ => true

def ycI (ty : TyT) (V : View) (s : St) (o : Oper) : Option St :=
 match YA ty (V.st s.T) o with
 | some e => if ydF V e = true then zh s o.dst e else none
 | none => none

def runU (ty : TyT) (V : View) (N : Nat) : List Oper → St → Option St
 | [], s => some s
 | o :: r, s => match o.guard with
  | none => match yJ N o.dst with
   | true => match ycI ty V s o with
    | some s' => runU ty V N r s'
    | none => none
   | false => none
  | some _ => none

theorem ya8 {e : Eff} {dst : Option Tmp} (hv : ydF V e = true) (h : zh s dst e = some s') {n : List (Nat × AV) → List (List AV) → Store → Prop} (k : n s'.T s'.L s'.σ) : YB P V e (fun x L σ => n (putT s.T dst x) L σ) s.L s.σ := by
 cases e with
 | pure x => simp only [zh, Option.some.injEq] at h; subst h; exact k
 | box cs => simp only [zh, Option.some.injEq] at h; subst h; exact k
 | append e te x ys =>
  simp only [zh] at h
  split at h
  ·cases h; exact ⟨_, ‹_›, k⟩
  ·cases h
 | call => simp [zh] at h
 | path => simp [zh] at h
 | mk => simp only [zh, Option.some.injEq] at h; subst h; exact k
 | storeL i off ti ds =>
  simp only [zh] at h
  split at h
  ·rename_i cs hcs
   split at h
   ·cases h
    refine ⟨cs, hcs, ‹_ ∧ _›.1, ‹_ ∧ _›.2, ?_, k⟩
    simp only [ydF] at hv
    split at hv
    ·exact .inl ‹_›
    ·exact .inr ‹_›
    ·cases hv
   ·cases h
  ·cases h

theorem yo (n : Nat) (h : runU ty V N (os.take n) s = some s') (k : UL P ty V N ops (os.drop n) K s') : UL P ty V N ops os K s := by
 induction n generalizing os s with
 | zero => simp [runU] at h; subst h; simpa using k
 | succ n ih =>
  cases os with
  | nil => simp [runU] at h; subst h; simpa using k
  | cons o os =>
   simp only [List.take_succ_cons, List.drop_succ_cons, runU] at h k
   split at h
   ·rename_i hg
    split at h
    ·rename_i hd
     split at h
     ·rename_i s1 hs1
      unfold ycI at hs1
      split at hs1
      ·rename_i e he
       split at hs1
       ·exact ⟨hd, e, .plain hg he, ya8 (n := fun T L σ => UL P ty V N ops os K ⟨T, L, σ⟩) ‹_› hs1 (ih (s := s1) h k)⟩
       ·cases hs1
      ·cases hs1
     ·cases h
    ·cases h
   ·cases h

theorem ypF {c : Call} {fo : Operand} {f : FuncId} {caps args : List AV} {R : AV → Store → Prop} (hV : ∀ r σ', R r σ' → ∀ (o : Nat) ob, V.objs[o]? = some ob → σ'.objs[o]? = some ob) (hg : o.guard = none) (ho : o.op = .call c) (hia : zN (.call c) = none) (hc : c.callee = .value fo) (hf : ev (V.st s.T) fo = .func (.func f) caps) (hca : Callable P f)
  (hargs : c.args.toList.map (ev (V.st s.T)) ++ caps = args) (hnl : AV.noLs args = true) (hd : yJ N o.dst = true) (h : ACalls P f args s.σ R) (hne : ∃ r σ', R r σ') (k : ∀ r σ', R r σ' → UL P ty V N ops os K ⟨putT s.T o.dst r, s.L, σ'⟩) : UL P ty V N ops (o :: os) K s := by
 subst hargs
 refine ⟨hd, .call f _, .plain hg ?_, hca, hnl, h.mono fun r σ' q => ⟨fun o ob h _ => hV r σ' q o ob h, k r σ' q⟩, ?_⟩
 ·simp only [YA, ho, hia, hc, hf]
 ·obtain ⟨r, σ', q⟩ := hne; exact ⟨r, σ', k r σ' q⟩

theorem yox {c : Call} {fo : Operand} {f : FuncId} {caps args : List AV} {R : AV → Store → Prop} (hV : ∀ r σ', R r σ' → ∀ (o : Nat) ob, V.objs[o]? = some ob → ob ≠ .box [] → σ'.objs[o]? = some ob) (hg : o.guard = none) (ho : o.op = .call c) (hia : zN (.call c) = none) (hc : c.callee = .value fo) (hf : ev (V.st s.T) fo = .func (.func f) caps) (hca : Callable P f)
  (hargs : c.args.toList.map (ev (V.st s.T)) ++ caps = args) (hnl : AV.noLs args = true) (hd : yJ N o.dst = true) (h : ACalls P f args s.σ R) (hne : ∃ r σ', R r σ') (k : ∀ r σ', R r σ' → UL P ty V N ops os K ⟨putT s.T o.dst r, s.L, σ'⟩) : UL P ty V N ops (o :: os) K s := by
 subst hargs
 refine ⟨hd, .call f _, .plain hg ?_, hca, hnl, h.mono fun r σ' q => ⟨hV r σ' q, k r σ' q⟩, ?_⟩
 ·simp only [YA, ho, hia, hc, hf]
 ·obtain ⟨r, σ', q⟩ := hne; exact ⟨r, σ', k r σ' q⟩

def yep : List Oper → St → St
 | [], s => s
 | o :: r, s => yep r ⟨putT s.T o.dst (.tuple []), s.L, s.σ⟩

theorem yqP (n : Nat) (d : Tmp) (want : Bool) (hb : off (get s.T d) want = true) (hg : YR ops d want (os.take n) = true) (hd : Zq N (os.take n) = true) (hne : (os.take n).all (fun o => o.dst != some d) = true)
  (k : UL P ty V N ops (os.drop n) K (yep (os.take n) s)) : UL P ty V N ops os K s := by
 induction n generalizing os s with
 | zero => simpa [yep] using k
 | succ n ih =>
  cases os with
  | nil => simpa [yep] using k
  | cons o os =>
   simp only [List.take_succ_cons, List.drop_succ_cons, YR, Zq, List.all_cons, Bool.and_eq_true, yep] at *
   refine ⟨hd.1, .pure (.tuple []), .no (by simpa using hg.1) hb, ?_⟩
   exact ih (s := ⟨putT s.T o.dst (.tuple []), s.L, s.σ⟩) (by rw [zW (by simpa using hne.1)]; exact hb) hg.2 hd.2 hne.2 k

def yd9 (ty : TyT) (V : View) : List Oper → St → Option St
 | [], s => some s
 | o :: r, s => match ycI ty V s o with
  | some s' => yd9 ty V r s'
  | none => none

theorem ylN {d : Tmp} (h : ycI ty V s o = some s') (hd : o.dst ≠ some d) : get s'.T d = get s.T d := by
 unfold ycI at h
 split at h
 ·rename_i e he
  split at h
  case isFalse => cases h
  cases e with
  | pure x => simp only [zh, Option.some.injEq] at h; subst h; exact zW hd
  | box cs => simp only [zh, Option.some.injEq] at h; subst h; exact zW hd
  | append e te x ys =>
   simp only [zh] at h
   split at h
   ·cases h; exact zW hd
   ·cases h
  | call => simp [zh] at h
  | path => simp [zh] at h
  | mk => simp only [zh, Option.some.injEq] at h; subst h; exact zW hd
  | storeL i off ti ds =>
   simp only [zh] at h
   split at h
   ·split at h
    ·cases h; exact zW hd
    ·cases h
   ·cases h
 ·cases h

theorem yap (n : Nat) (d : Tmp) (b want : Bool) (hb : get s.T d = .pv (.bool b)) (hbw : b = want) (hg : YR ops d want (os.take n) = true) (hd : Zq N (os.take n) = true) (hne : (os.take n).all (fun o => o.dst != some d) = true)
  (h : yd9 ty V (os.take n) s = some s') (k : UL P ty V N ops (os.drop n) K s') : UL P ty V N ops os K s := by
 induction n generalizing os s with
 | zero => simp [yd9] at h; subst h; simpa using k
 | succ n ih =>
  cases os with
  | nil => simp [yd9] at h; subst h; simpa using k
  | cons o os =>
   simp only [List.take_succ_cons, List.drop_succ_cons, YR, Zq, List.all_cons, Bool.and_eq_true, yd9] at *
   split at h
   ·rename_i s1 hs1
    have hs1' := hs1
    unfold ycI at hs1
    split at hs1
    ·rename_i e he
     split at hs1
     case isFalse => cases hs1
     refine ⟨hd.1, e, .yes (by simpa using hg.1) (by rw [hb, hbw]) he, ya8 (n := fun T L σ => UL P ty V N ops os K ⟨T, L, σ⟩) ‹_› hs1 ?_⟩
     exact ih (s := s1) (by rw [ylN hs1' (by simpa using hne.1)]; exact hb) hg.2 hd.2 hne.2 h k
    ·cases hs1
   ·cases h

theorem ynB {c : Call} {fo : Operand} {f : FuncId} {caps args : List AV} {R : AV → Store → Prop} (d : Tmp) (b want : Bool) (hb : get s.T d = .pv (.bool b)) (hbw : b = want) (hg : y9 ops o = some (d, want)) (hV : ∀ r σ', R r σ' → ∀ (o : Nat) ob, V.objs[o]? = some ob → σ'.objs[o]? = some ob) (ho : o.op = .call c) (hia : zN (.call c) = none) (hc : c.callee = .value fo) (hf : ev (V.st s.T) fo = .func (.func f) caps) (hca : Callable P f)
  (hargs : c.args.toList.map (ev (V.st s.T)) ++ caps = args) (hnl : AV.noLs args = true) (hd : yJ N o.dst = true) (h : ACalls P f args s.σ R) (hne : ∃ r σ', R r σ') (k : ∀ r σ', R r σ' → UL P ty V N ops os K ⟨putT s.T o.dst r, s.L, σ'⟩) : UL P ty V N ops (o :: os) K s := by
 subst hargs
 refine ⟨hd, .call f _, .yes hg (by rw [hb, hbw]) ?_, hca, hnl, h.mono fun r σ' q => ⟨fun o ob h _ => hV r σ' q o ob h, k r σ' q⟩, ?_⟩
 ·simp only [YA, ho, hia, hc, hf]
 ·obtain ⟨r, σ', q⟩ := hne; exact ⟨r, σ', k r σ' q⟩
end
def yel (xs : List Nat) (keepObjs : Bool) (s : St) : View := ⟨s.L.mapIdx fun i cs => if xs.contains i then [] else cs, if keepObjs then s.σ.objs else [], s.σ.gl⟩

theorem ymu {ρ : Option Nat} {P : Program} {ty : TyT} {ops : Array Oper} {σ0 : Store} {N : Nat} {s : St} {id : Nat} {QQ : Exit → St → Prop} (hty : TyOk P ty) (hsz : ∀ t ti, ty t = some ti → ti.size ≠ 0) (m : Nat) (xs : List Nat) (b : Bool) (hok : Y5 ops m = true) (hm : m < ops.size)
  (h : UL P ty (yel xs b s) N ops (ops.toList.take m) (fun s => AOpsL P σ0 N ops (ops.toList.drop m) (QQ .normal) s) s) : AWpR ρ P σ0 N (.region id ops true) QQ s := by
 refine ybs hty hsz m (yel xs b s) hok hm rfl ⟨fun i cs h hne => ?_, fun o ob h _ => ?_⟩ h
 ·simp only [yel, List.getElem?_mapIdx, Option.map_eq_some_iff] at h
  obtain ⟨ds, hds, h⟩ := h
  split at h
  ·exact (hne h.symm).elim
  ·rw [hds, h]
 ·cases b
  ·simp [yel] at h
  ·exact h

def YP (ks : List Nat) (l : List AObj) : List AObj := l.mapIdx fun i ob => if ks.contains i then .box [] else ob
theorem Yp {ks : List Nat} {l : List AObj} {o : Nat} (h : o ∉ ks) : (YP ks l)[o]? = l[o]? := by
 unfold YP
 rw [List.getElem?_mapIdx]
 simp [h]
theorem zD {ks : List Nat} {l : List AObj} {o : Nat} {ob : AObj} (h : (YP ks l)[o]? = some ob) (hne : ob ≠ .box []) : o ∉ ks ∧ l[o]? = some ob := by
 unfold YP at h
 rw [List.getElem?_mapIdx, Option.map_eq_some_iff] at h
 obtain ⟨b, hb, h⟩ := h
 split at h
 ·exact absurd h.symm hne
 ·rename_i hk; subst h; exact ⟨by simpa using hk, hb⟩
def ylz (ks : List Nat) (s : St) : View := ⟨s.L, YP ks s.σ.objs, s.σ.gl⟩
theorem YW {ρ : Option Nat} {P : Program} {ty : TyT} {ops : Array Oper} {σ0 : Store} {N : Nat} {s : St} {id : Nat} {QQ : Exit → St → Prop} (hty : TyOk P ty) (hsz : ∀ t ti, ty t = some ti → ti.size ≠ 0) (ks : List Nat) (m : Nat) (hok : Y5 ops m = true) (hm : m < ops.size)
  (h : UL P ty (ylz ks s) N ops (ops.toList.take m) (fun s => AOpsL P σ0 N ops (ops.toList.drop m) (QQ .normal) s) s) : AWpR ρ P σ0 N (.region id ops true) QQ s :=
 ybs hty hsz m (ylz ks s) hok hm rfl ⟨fun i cs h _ => h, fun o ob h hne => (zD h hne).2⟩ h
attribute [go_sem] ylz
attribute [go_sem] yel ydF yh0 yaF View.st putT YA ZG zh ycI runU yd9 yep
end Go.Aw

namespace Go.Aw
open Go
end Go.Aw

namespace Go.Aw
open Go
inductive WA : AV → AV → Prop where
 | junk {x : AV} : WA x .junk
 | same {x : AV} : WA x x
 | pv {x : AV} {p : PV} (h : toPV x = some p) : WA x (.pv p)
 | nils : WA (.pv .nils) (.pv (.slice []))
 | nilscr {o : Nat} : WA (.pv .nils) (.scr o 0 0)

def WAs : List AV → List AV → Prop
 | [], [] => True
 | x :: l, y :: r => WA x y ∧ WAs l r
 | _, _ => False

section wa
variable {o o' a b k j : Nat} {x : AV} {p q : PV} {xs ys : List PV} {cs ds : List AV} {f f' : Fn}
theorem ypz : WA x .junk ↔ True := ⟨fun _ => trivial, fun _ => .junk⟩
theorem ysx : WA (.pv p) (.pv q) ↔ p = q ∨ p.nrm = q ∨ (p = .nils ∧ q = .slice []) := by
 constructor
 ·intro h
  cases h with
  | same => exact .inl rfl
  | pv h => simp [toPV, zG] at h; exact .inr (.inl h)
  | nils => exact .inr (.inr ⟨rfl, rfl⟩)
 ·rintro (rfl | rfl | ⟨rfl, rfl⟩)
  ·exact .same
  ·exact .pv (by simp [toPV, zG])
  ·exact .nils
theorem ypI : WA (.full xs) (.full ys) ↔ xs = ys := ⟨fun h => by cases h; rfl, fun h => by subst h; exact .same⟩
theorem yl7 : WA (.full xs) (.pv q) ↔ q = .slice xs := ⟨fun h => by cases h with | pv h => simp [toPV, zG, PV.nrm] at h; exact h.symm, fun h => by subst h; exact .pv rfl⟩
theorem ynP : WA (.acc xs k) (.pv q) ↔ q = .slice xs := ⟨fun h => by cases h with | pv h => simp [toPV, zG, PV.nrm] at h; exact h.symm, fun h => by subst h; exact .pv rfl⟩
theorem yoC : WA (.agg cs) (.pv q) ↔ toPV (.agg cs) = some q := ⟨fun h => by cases h with | pv h => exact h, fun h => .pv h⟩
theorem yrO : WA (.acc xs k) (.acc ys j) ↔ xs = ys ∧ k = j := ⟨fun h => by cases h with | same => exact ⟨rfl, rfl⟩, fun ⟨h1, h2⟩ => by subst h1 h2; exact .same⟩
theorem yrZ : WA (.ptr o a) (.ptr o' b) ↔ o = o' ∧ a = b := ⟨fun h => by cases h with | same => exact ⟨rfl, rfl⟩, fun ⟨h1, h2⟩ => by subst h1 h2; exact .same⟩
theorem yrR : WA (.map o) (.map o') ↔ o = o' := ⟨fun h => by cases h with | same => rfl, fun h1 => by subst h1; exact .same⟩
theorem yqA : WA (.func f cs) (.func f' ds) ↔ f = f' ∧ cs = ds := ⟨fun h => by cases h with | same => exact ⟨rfl, rfl⟩, fun ⟨h1, h2⟩ => by subst h1 h2; exact .same⟩
theorem yr7 {n m cap cap' : Nat} : WA (.scr o n cap) (.scr o' m cap') ↔ o = o' ∧ n = m ∧ cap = cap' := ⟨fun h => by cases h; exact ⟨rfl, rfl, rfl⟩, fun ⟨h1, h2, h3⟩ => by subst h1 h2 h3; exact .same⟩
theorem ysA {n m c d : Nat} : WA (.sl o c n) (.sl o' d m) ↔ o = o' ∧ c = d ∧ n = m := ⟨fun h => by cases h with | same => exact ⟨rfl, rfl, rfl⟩, fun ⟨h1, h2, h3⟩ => by subst h1 h2 h3; exact .same⟩
theorem ym1 {n cap : Nat} : WA (.pv p) (.scr o n cap) ↔ p = .nils ∧ n = 0 ∧ cap = 0 := ⟨fun h => by cases h; exact ⟨rfl, rfl, rfl⟩, fun ⟨h1, h2, h3⟩ => by subst h1 h2 h3; exact .nilscr⟩
theorem yq7 : WA (.agg cs) (.agg ds) ↔ cs = ds := ⟨fun h => by cases h with | same => rfl, fun h2 => by subst h2; exact .same⟩
end wa
def WVs (no nt nl : Nat) : List AV → List AV → Prop
 | [], [] => True
 | x :: l, y :: r => WV no nt nl x y ∧ WVs no nt nl l r
 | _, _ => False

def WVt (no nt nl : Nat) : AV → AV → Prop
 | .tuple xs, .tuple ys => WVs no nt nl xs ys
 | x, y => WV no nt nl x y

attribute [go_sem] yr7 ysA ym1 ypz ysx ypI yl7 ynP yoC yrO yrZ yrR yqA yq7 WAs WVs WVt
def zJ (P : Program) (σ : Store) (f : FuncId) (args : List AV) (r : AV) : Prop := ACalls P f args σ fun r' σ' => r' = r ∧ σ' = σ
def Pur (P : Program) (G : List (Nat × PV)) (f : FuncId) (args : List AV) (r : AV) : Prop := ∀ σ, σ.gl = G → zJ P σ f args r

section
variable {ρ : Option Nat} {P : Program} {ty : TyT} {g0 g : Ghost} {σ0 σ : Store} {w0 w : World} {N : Nat} {s s' : St} {a : Act} {tk : List Tok} {no nt nl : Nat}
theorem RA.wa {x y : AV} {v : Value} (h : RA g tk w x v) (hw : WA x y) : RA g tk w y v := by
 cases hw with
 | junk => exact .junk
 | same => exact h
 | pv hp => exact .pv (h.toPV hp)
 | nils =>
  have := h.pv_inv.nils_inv
  rw [this]; exact .pv .empty
 | nilscr =>
  have := h.pv_inv.nils_inv
  rw [this]; exact .scrnil

theorem RA.wv {x y : AV} {v : Value} (h : RA g tk w x v) (hw : WV no nt nl x y) : RA (g.cut no nt nl) (tk.take nt) w y v := by
 cases hw with
 | junk => exact .junk
 | same hc => exact h.cut hc
 | pv hp => exact .pv (h.toPV hp)
 | nils =>
  have := h.pv_inv.nils_inv
  rw [this]; exact .pv .empty
 | nilscr =>
  have := h.pv_inv.nils_inv
  rw [this]; exact .scrnil

theorem ykE : ∀ {l r : List AV}, WVs no nt nl l r → l.length = r.length ∧ ∀ (i : Nat) x y, l[i]? = some x → r[i]? = some y → WV no nt nl x y
 | [], [], _ => ⟨rfl, fun i x y h => by simp at h⟩
 | x :: l, y :: r, h => by
  obtain ⟨h1, h2⟩ := ykE h.2
  refine ⟨by simp [h1], fun i u v hu hv => ?_⟩
  cases i with
  | zero => simp at hu hv; subst hu hv; exact h.1
  | succ i => exact h2 i u v (by simpa using hu) (by simpa using hv)
 | [], _ :: _, h => h.elim
 | _ :: _, [], h => h.elim

theorem RA.wvt {x y : AV} {v : Value} (h : RA g tk w x v) (hw : WVt no nt nl x y) : RA (g.cut no nt nl) (tk.take nt) w y v := by
 unfold WVt at hw
 split at hw
 ·obtain ⟨h1, h2⟩ := ykE hw
  cases h with
  | tuple hl hr =>
   rename_i xs ys vs
   refine .tuple (by rw [hl, h1]) (fun i x v hx hv => ?_)
   have hi : i < xs.length := by rw [h1]; exact (List.getElem?_eq_some_iff.1 hx).1
   exact (hr i xs[i] v (by simp) hv).wv (h2 i xs[i] x (by simp) hx)
 ·exact h.wv hw

theorem ygA : ∀ {l r : List AV}, WAs l r → l.length = r.length ∧ ∀ (i : Nat) x y, l[i]? = some x → r[i]? = some y → WA x y
 | [], [], _ => ⟨rfl, fun i x y h => by simp at h⟩
 | x :: l, y :: r, h => by
  obtain ⟨h1, h2⟩ := ygA h.2
  refine ⟨by simp [h1], fun i u v hu hv => ?_⟩
  cases i with
  | zero => simp at hu hv; subst hu hv; exact h.1
  | succ i => exact h2 i u v (by simpa using hu) (by simpa using hv)
 | [], _ :: _, h => h.elim
 | _ :: _, [], h => h.elim

theorem ACalls.args {f : FuncId} {xs ys : List AV} {R : AV → Store → Prop} (h : ACalls P f ys σ R) (hw : WAs xs ys) : ACalls P f xs σ R := by
 intro g w cargs h1 h2 h3
 obtain ⟨k1, k2⟩ := ygA hw
 refine h g w cargs h1 (by rw [h2, k1]) (fun i x v hx hv => ?_)
 have hi : i < xs.length := by rw [k1]; exact (List.getElem?_eq_some_iff.1 hx).1
 exact (h3 i xs[i] v (by simp) hv).wa (k2 i xs[i] x (by simp) hx)

theorem ACalls.less {f : FuncId} {args : List AV} {R R' : AV → Store → Prop} (h : ACalls P f args σ R)
  (k : ∀ r σ', R r σ' → ∃ no nt r2, WVt no nt 0 r r2 ∧ σ.objs.length ≤ no ∧ σ.toks.length ≤ nt ∧ (∀ ob, ob ∈ σ'.objs.take no → ob ∈ σ.objs ∨ ob.clo no nt 0 = true) ∧ R' r2 (σ'.cut no nt)) : ACalls P f args σ R' := by
 intro g w cargs h1 h2 h3
 refine (h g w cargs h1 h2 h3).mono ?_
 rintro e w' ⟨v, r, σ', g', rfl, hR, hinv, hext, hra⟩
 obtain ⟨no, nt, r2, k1, k2, k3, k4, k5⟩ := k r σ' hR
 have hi := hinv.cut (no := no) (nt := nt) (nl := 0) (fun ob hob => by
  rcases k4 ob hob with h | h
  ·exact AObj.clo_mono k2 k3 (Nat.zero_le _) (hext.clo0 ob h)
  ·exact h) (fun cs hcs => by simp at hcs)
 exact ⟨v, r2, σ'.cut no nt, g'.cut no nt 0, rfl, k5, by simpa using hi, hext.cut k2 k3, hra.wvt k1⟩

abbrev Gives (σ : Store) (res : AV) (r : AV) (σ' : Store) : Prop := WVt σ.objs.length σ.toks.length 0 r res ∧ σ'.cut σ.objs.length σ.toks.length = σ

theorem Y1 {f : FuncId} {args : List AV} {res : AV} (h : ACalls P f args σ (Gives σ res)) : zJ P σ f args res := by
 refine h.less fun r σ' ⟨h1, h2⟩ => ⟨_, _, res, h1, Nat.le_refl _, Nat.le_refl _, fun ob hob => .inl ?_, rfl, h2⟩
 have : σ.objs = σ'.objs.take σ.objs.length := congrArg Store.objs h2.symm
 rw [this]; exact hob

theorem yB {G : List (Nat × PV)} {f : FuncId} {args : List AV} {res : AV} (h : ∀ σ, σ.gl = G → ACalls P f args σ (Gives σ res)) : Pur P G f args res :=
 fun σ hgl => Y1 (h σ hgl)

theorem yf8 (hty : TyOk P ty) {f : FuncId} {fn : Func} {c : Code} {args : List AV} {R : AV → Store → Prop} (hf : P.funcs[f]? = some fn) (hb : fn.body = some c) (hn : args.length ≤ fn.ntmps) (hnl : AV.noLs args = true)
  (h : AV.clos σ.objs.length σ.toks.length 0 args = true → AWp P σ fn.ntmps c (Ends ty fn.results.toList R) ⟨argT 0 args, [], σ⟩) : ACalls P f args σ R := by
 intro g w cargs hinv hlen hargs
 have hc : AV.clos σ.objs.length σ.toks.length 0 args = true := by
  rw [AV.clos_iff]
  intro x hx
  obtain ⟨i, hi, rfl⟩ := List.getElem_of_mem hx
  have := (hargs i args[i] cargs[i] (by simp) (by simp)).clo (AV.noLs_iff.1 hnl _ hx)
  rw [hinv.lio] at this
  exact this
 exact yk hty hf hb hn (h hc) g w cargs hinv hlen hargs

section ops
variable {ops : Array Oper} {os : List Oper} {o : Oper} {K : St → Prop} {V : View} {c : Call} {fo : Operand} {f : FuncId} {caps xs args : List AV} {r : AV} {R : AV → Store → Prop} {G : List (Nat × PV)}
theorem yy (hg : o.guard = none) (ho : o.op = .call c) (hc : c.callee = .value fo) (hf : ev s fo = .func (.func f) caps) (hca : Callable P f) (h : ACalls P f args s.σ R)
  (hargs : c.args.toList.map (ev s) ++ caps = xs) (hw : WAs xs args) (hnl : AV.noLs xs = true) (hd : yJ N o.dst = true) (k : ∀ r σ', R r σ' → AOpsL P σ0 N ops os K (({ s with σ := σ' } : St).put o.dst r)) : AOpsL P σ0 N ops (o :: os) K s :=
 yqf hg ho hc hf hca hargs hnl hd (h.args hw) k

theorem ycS (hg : o.guard = none) (ho : o.op = .call c) (hc : c.callee = .value fo) (hf : ev s fo = .func (.func f) caps) (hca : Callable P f) (h : zJ P s.σ f args r)
  (hargs : c.args.toList.map (ev s) ++ caps = xs) (hw : WAs xs args) (hnl : AV.noLs xs = true) (hd : yJ N o.dst = true) (k : AOpsL P σ0 N ops os K (s.put o.dst r)) : AOpsL P σ0 N ops (o :: os) K s :=
 yy hg ho hc hf hca h hargs hw hnl hd (by rintro _ _ ⟨rfl, rfl⟩; exact k)

theorem ymd (d : Tmp) (b want : Bool) (hb : get s.T d = .pv (.bool b)) (hbw : b = want) (hg : y9 ops o = some (d, want)) (ho : o.op = .call c) (hc : c.callee = .value fo) (hf : ev s fo = .func (.func f) caps) (hca : Callable P f) (h : ACalls P f args s.σ R)
  (hargs : c.args.toList.map (ev s) ++ caps = xs) (hw : WAs xs args) (hnl : AV.noLs xs = true) (hd : yJ N o.dst = true) (k : ∀ r σ', R r σ' → AOpsL P σ0 N ops os K (({ s with σ := σ' } : St).put o.dst r)) : AOpsL P σ0 N ops (o :: os) K s := by
 subst hargs
 exact ygT d b want hb hbw hg hd (ycE ho hc hf hca hnl hd ((h.args hw).mono k))

theorem yY (d : Tmp) (b want : Bool) (hb : get s.T d = .pv (.bool b)) (hbw : b = want) (hg : y9 ops o = some (d, want)) (ho : o.op = .call c) (hc : c.callee = .value fo) (hf : ev s fo = .func (.func f) caps) (hca : Callable P f) (h : zJ P s.σ f args r)
  (hargs : c.args.toList.map (ev s) ++ caps = xs) (hw : WAs xs args) (hnl : AV.noLs xs = true) (hd : yJ N o.dst = true) (k : AOpsL P σ0 N ops os K (s.put o.dst r)) : AOpsL P σ0 N ops (o :: os) K s :=
 ymd d b want hb hbw hg ho hc hf hca h hargs hw hnl hd (by rintro _ _ ⟨rfl, rfl⟩; exact k)

theorem yn {b : Bool} (d : Tmp) (hb : get s.T d = .pv (.bool b)) (h1 : b = true → AOpsL P σ0 N ops os K { s with T := (d, .pv (.bool true)) :: s.T }) (h2 : b = false → AOpsL P σ0 N ops os K { s with T := (d, .pv (.bool false)) :: s.T }) : AOpsL P σ0 N ops os K s := by
 have key : ∀ c, b = c → AOpsL P σ0 N ops os K { s with T := (d, .pv (.bool c)) :: s.T } → AOpsL P σ0 N ops os K s := by
  intro c hc k l hl g0 w0 a w nx ⟨g, r⟩ hn
  refine k l hl g0 w0 a w nx ⟨g, r.1, r.2.1, r.2.2.1, r.2.2.2.1, fun t => ?_⟩ hn
  have h := r.2.2.2.2 t
  simp only [Aw.get]
  split
  ·subst_vars; rw [hb] at h; exact h
  ·exact h
 cases b
 ·exact key false rfl (h2 rfl)
 ·exact key true rfl (h1 rfl)

theorem yf9 : ∀ (us : List Oper) {T T' : List (Nat × AV)} {L : List (List AV)} {σ : Store}, Same T T' → (∀ T T' L σ, Same T T' → K ⟨T, L, σ⟩ → K ⟨T', L, σ⟩) → UL P ty V N ops us K ⟨T, L, σ⟩ → UL P ty V N ops us K ⟨T', L, σ⟩
 | [], T, T', L, σ, hs, hK, h => hK _ _ _ _ hs h
 | o :: us, T, T', L, σ, hs, hK, h => ⟨h.1, ydB (n := fun T L σ => UL P ty V N ops us K ⟨T, L, σ⟩) (fun T T' L σ hs q => yf9 us hs hK q) T T' L σ hs h.2⟩

theorem ykX {T T' : List (Nat × AV)} {L : List (List AV)} {σ : Store} (hs : Same T T') (h : AOpsL P σ0 N ops os K ⟨T, L, σ⟩) : AOpsL P σ0 N ops os K ⟨T', L, σ⟩ := by
 intro l hl g0 w0 a w nx ⟨g, r⟩ hn
 refine h l hl g0 w0 a w nx ⟨g, r.1, r.2.1, r.2.2.1, r.2.2.2.1, fun t => ?_⟩ hn
 have := r.2.2.2.2 t
 simp only at this ⊢
 rw [hs t]; exact this

theorem Zj {us : List Oper} {Q : St → Prop} {b : Bool} (d : Tmp) (hb : get s.T d = .pv (.bool b)) (h1 : b = true → UL P ty V N ops us (fun s => AOpsL P σ0 N ops os Q s) { s with T := (d, .pv (.bool true)) :: s.T }) (h2 : b = false → UL P ty V N ops us (fun s => AOpsL P σ0 N ops os Q s) { s with T := (d, .pv (.bool false)) :: s.T }) : UL P ty V N ops us (fun s => AOpsL P σ0 N ops os Q s) s := by
 have key : ∀ c, b = c → UL P ty V N ops us (fun s => AOpsL P σ0 N ops os Q s) { s with T := (d, .pv (.bool c)) :: s.T } → UL P ty V N ops us (fun s => AOpsL P σ0 N ops os Q s) s := by
  intro c hc k
  refine yf9 us (T := (d, .pv (.bool c)) :: s.T) (fun t => ?_) (fun T T' L σ hs q => ykX hs q) k
  simp only [Aw.get]
  split
  ·subst_vars; exact hb.symm
  ·rfl
 cases b
 ·exact key false rfl (h2 rfl)
 ·exact key true rfl (h1 rfl)

theorem Yv (hV : ∀ r σ', R r σ' → ∀ (o : Nat) ob, V.objs[o]? = some ob → σ'.objs[o]? = some ob) (hg : o.guard = none) (ho : o.op = .call c) (hia : zN (.call c) = none) (hc : c.callee = .value fo) (hf : ev (V.st s.T) fo = .func (.func f) caps) (hca : Callable P f) (h : ACalls P f args s.σ R)
  (hargs : c.args.toList.map (ev (V.st s.T)) ++ caps = xs) (hw : WAs xs args) (hnl : AV.noLs xs = true) (hd : yJ N o.dst = true) (hne : ∃ r σ', R r σ') (k : ∀ r σ', R r σ' → UL P ty V N ops os K ⟨putT s.T o.dst r, s.L, σ'⟩) : UL P ty V N ops (o :: os) K s :=
 ypF hV hg ho hia hc hf hca hargs hnl hd (h.args hw) hne k

theorem YK (hV : ∀ r σ', R r σ' → ∀ (o : Nat) ob, V.objs[o]? = some ob → ob ≠ .box [] → σ'.objs[o]? = some ob) (hg : o.guard = none) (ho : o.op = .call c) (hia : zN (.call c) = none) (hc : c.callee = .value fo) (hf : ev (V.st s.T) fo = .func (.func f) caps) (hca : Callable P f) (h : ACalls P f args s.σ R)
  (hargs : c.args.toList.map (ev (V.st s.T)) ++ caps = xs) (hw : WAs xs args) (hnl : AV.noLs xs = true) (hd : yJ N o.dst = true) (hne : ∃ r σ', R r σ') (k : ∀ r σ', R r σ' → UL P ty V N ops os K ⟨putT s.T o.dst r, s.L, σ'⟩) : UL P ty V N ops (o :: os) K s :=
 yox hV hg ho hia hc hf hca hargs hnl hd (h.args hw) hne k

theorem yQ (hV : ∀ (o : Nat) ob, V.objs[o]? = some ob → s.σ.objs[o]? = some ob) (hg : o.guard = none) (ho : o.op = .call c) (hia : zN (.call c) = none) (hc : c.callee = .value fo) (hf : ev (V.st s.T) fo = .func (.func f) caps) (hca : Callable P f) (h : zJ P s.σ f args r)
  (hargs : c.args.toList.map (ev (V.st s.T)) ++ caps = xs) (hw : WAs xs args) (hnl : AV.noLs xs = true) (hd : yJ N o.dst = true) (k : UL P ty V N ops os K ⟨putT s.T o.dst r, s.L, s.σ⟩) : UL P ty V N ops (o :: os) K s :=
 Yv (by rintro _ _ ⟨_, rfl⟩; exact hV) hg ho hia hc hf hca h hargs hw hnl hd ⟨_, _, rfl, rfl⟩ (by rintro _ _ ⟨rfl, rfl⟩; exact k)

theorem Y8 (hV : ∀ (o : Nat) ob, V.objs[o]? = some ob → ob ≠ .box [] → s.σ.objs[o]? = some ob) (hg : o.guard = none) (ho : o.op = .call c) (hia : zN (.call c) = none) (hc : c.callee = .value fo) (hf : ev (V.st s.T) fo = .func (.func f) caps) (hca : Callable P f) (h : zJ P s.σ f args r)
  (hargs : c.args.toList.map (ev (V.st s.T)) ++ caps = xs) (hw : WAs xs args) (hnl : AV.noLs xs = true) (hd : yJ N o.dst = true) (k : UL P ty V N ops os K ⟨putT s.T o.dst r, s.L, s.σ⟩) : UL P ty V N ops (o :: os) K s :=
 YK (by rintro _ _ ⟨_, rfl⟩; exact hV) hg ho hia hc hf hca h hargs hw hnl hd ⟨_, _, rfl, rfl⟩ (by rintro _ _ ⟨rfl, rfl⟩; exact k)

theorem ypN {x : AV} {n : Nat} (hg : o.guard = none) (he : YA ty (V.st s.T) o = some (.path x n)) (hd : yJ N o.dst = true) (hp : PathAt s.σ x n)
  (k : ∀ x' objs', (objs' = s.σ.objs ∨ ∃ cap, objs' = s.σ.objs ++ [.box (List.replicate cap .junk)]) → PathAt { s.σ with objs := objs' } x' (n + 1) → UL P ty V N ops os K ⟨putT s.T o.dst x', s.L, { s.σ with objs := objs' }⟩) : UL P ty V N ops (o :: os) K s :=
 ⟨hd, .path x n, .plain hg he, hp, k⟩

theorem ymv (d : Tmp) (b want : Bool) (hb : get s.T d = .pv (.bool b)) (hbw : b = want) (hV : ∀ r σ', R r σ' → ∀ (o : Nat) ob, V.objs[o]? = some ob → σ'.objs[o]? = some ob) (hg : y9 ops o = some (d, want)) (ho : o.op = .call c) (hia : zN (.call c) = none) (hc : c.callee = .value fo) (hf : ev (V.st s.T) fo = .func (.func f) caps) (hca : Callable P f) (h : ACalls P f args s.σ R)
  (hargs : c.args.toList.map (ev (V.st s.T)) ++ caps = xs) (hw : WAs xs args) (hnl : AV.noLs xs = true) (hd : yJ N o.dst = true) (hne : ∃ r σ', R r σ') (k : ∀ r σ', R r σ' → UL P ty V N ops os K ⟨putT s.T o.dst r, s.L, σ'⟩) : UL P ty V N ops (o :: os) K s :=
 ynB d b want hb hbw hg hV ho hia hc hf hca hargs hnl hd (h.args hw) hne k

theorem ydo (d : Tmp) (b want : Bool) (hb : get s.T d = .pv (.bool b)) (hbw : b = want) (hV : ∀ (o : Nat) ob, V.objs[o]? = some ob → s.σ.objs[o]? = some ob) (hg : y9 ops o = some (d, want)) (ho : o.op = .call c) (hia : zN (.call c) = none) (hc : c.callee = .value fo) (hf : ev (V.st s.T) fo = .func (.func f) caps) (hca : Callable P f) (h : zJ P s.σ f args r)
  (hargs : c.args.toList.map (ev (V.st s.T)) ++ caps = xs) (hw : WAs xs args) (hnl : AV.noLs xs = true) (hd : yJ N o.dst = true) (k : UL P ty V N ops os K ⟨putT s.T o.dst r, s.L, s.σ⟩) : UL P ty V N ops (o :: os) K s :=
 ymv d b want hb hbw (by rintro _ _ ⟨_, rfl⟩; exact hV) hg ho hia hc hf hca h hargs hw hnl hd ⟨_, _, rfl, rfl⟩ (by rintro _ _ ⟨rfl, rfl⟩; exact k)
end ops
theorem yjh {G : List (Nat × PV)} {f : FuncId} {ps : List PV} {q : PV} (l : List KA) (hps : yV l ps = true) (a : KA) (hq : a.fits q = true) (h : ∀ w, Calls P f (ps.map yW).toArray w fun e w' => e = .returned (yW q) ∧ w' = w) : Pur P G f (ps.map .pv) (.pv q) := by
 intro σ _ g w cargs hinv hlen hargs
 have hc : cargs = ps.map yW := by
  refine yaG (B := g.B) (S := g.S) (w := w) hps (by simpa using hlen) (fun i x v hx hv => ?_)
  exact (hargs i (.pv x) v (by simp [hx]) hv).pv_inv
 subst hc
 refine (h w).mono ?_
 rintro e w' ⟨rfl, rfl⟩
 refine ⟨_, _, _, g, rfl, ⟨rfl, rfl⟩, hinv, Ext.refl hinv, .pv ?_⟩
 cases a <;> cases q <;> simp [KA.fits] at hq <;> constructor
end
attribute [go_sem] yae ycO
@[go_sem] theorem ygH (d : D) : (enc d).nrm = enc d := by rw [yaM]; rfl
theorem ydx {α : Type} {l : List α} (h : l ≠ []) : ∃ x r, l = x :: r := by cases l with
 | nil => exact (h rfl).elim
 | cons x r => exact ⟨x, r, rfl⟩
@[go_sem] theorem yoa : ∀ {l : List AV}, WAs l l ↔ True
 | [] => by simp [WAs]
 | x :: l => by simp only [WAs, yoa, and_true, iff_true]; exact .same
@[go_sem] theorem yrt {α β : Type} {l : List α} {f : α → β} : (l.map f).take l.length = l.map f := List.take_of_length_le (by simp)
@[go_sem] theorem ytb {k : IntKind} {n : Int} : (PV.int k n).cells = [.int k n] := rfl
@[go_sem] theorem ys8 {b : Bool} : (PV.bool b).cells = [.bool b] := rfl
@[go_sem] theorem ytd {b : ByteArray} : (PV.str b).cells = [.str b] := rfl
@[go_sem] theorem ys1 {xs : List PV} : (PV.slice xs).cells = [.slice xs] := rfl
@[go_sem] theorem ys7 : PV.nils.cells = [.nils] := rfl
@[go_sem] theorem yta {cs : List PV} : (PV.agg cs).cells = cs := rfl
end Go.Aw

namespace Go.Aw
open Go
abbrev es : ByteArray := ⟨#[]⟩
def dsym (s : ByteArray) : D := .mk 2 0 s []
def dlist (l : List D) : D := .mk 3 0 es l
def dnone : D := .mk 0 0 es []

theorem ybh : enc dnone = .agg [.int .i64 0, .int .i64 0, .str es, .slice []] := by simp [dnone, enc, encs]

def Zc (c : Int) : Bool := decide (48 ≤ c) && decide (c ≤ 57)
def Zb (c : Int) : Bool := decide (97 ≤ c) && decide (c ≤ 122)
def sLet : ByteArray := ⟨#[108, 101, 116]⟩
def Z3 : ByteArray := ⟨#[113, 117, 111, 116, 101]⟩
def sIf : ByteArray := ⟨#[105, 102]⟩

def D.head (d : D) : D := d.kids.headD dnone

def yaA {α : Type} (p : α → Bool) (l : List α) : Int :=
 match l.findIdx? p with
 | some i => i
 | none => -1

def NotYet {α : Type} (p : α → Bool) (l : List α) (k : Nat) : Prop := ∀ (j : Nat) x, j < k → l[j]? = some x → p x = false

section
variable {α : Type} {p : α → Bool} {l : List α} {k : Nat} {x : α}
theorem NotYet.zero : NotYet p l 0 := fun j x h => by omega
theorem NotYet.succ (h : NotYet p l k) (hx : l[k]? = some x) (hp : p x = false) : NotYet p l (k + 1) := by
 intro j y hj hy
 by_cases e : j = k
 ·subst e; rw [hx] at hy; cases hy; exact hp
 ·exact h j y (by omega) hy
theorem NotYet.all (h : NotYet p l l.length) : ∀ x, x ∈ l → p x = false := by
 intro x hx
 obtain ⟨j, hj, rfl⟩ := List.getElem_of_mem hx
 exact h j _ hj (by simp)
theorem NotYet.any (h : NotYet p l l.length) : l.any p = false := by
 rw [List.any_eq_false]
 intro x hx; simp [h.all x hx]
theorem yeI (h : NotYet p l k) (hx : l[k]? = some x) (hp : p x = true) : yaA p l = k := by
 unfold yaA
 have : l.findIdx? p = some k := by
  rw [List.findIdx?_eq_some_iff_getElem]
  obtain ⟨h1, h2⟩ := List.getElem?_eq_some_iff.1 hx
  refine ⟨h1, by rw [h2]; exact hp, fun j hj => ?_⟩
  have := h j l[j] hj (by simp)
  simp [this]
 rw [this]
theorem ygh (h : NotYet p l l.length) : yaA p l = -1 := by
 unfold yaA
 have : l.findIdx? p = none := by
  rw [List.findIdx?_eq_none_iff]
  intro x hx; simp [h.all x hx]
 rw [this]
theorem yhs (p : α → Bool) (l : List α) : decide (yaA p l ≥ 0) = l.any p := by
 unfold yaA
 cases h : l.findIdx? p with
 | none =>
  rw [List.findIdx?_eq_none_iff] at h
  have : l.any p = false := by rw [List.any_eq_false]; intro x hx; simp [h x hx]
  rw [this]; rfl
 | some i =>
  rw [List.findIdx?_eq_some_iff_getElem] at h
  obtain ⟨h1, h2, _⟩ := h
  have : l.any p = true := List.any_eq_true.2 ⟨_, List.getElem_mem h1, h2⟩
  rw [this]; simp
theorem ZH (hx : l[k]? = some x) (hp : p x = true) : l.any p = true := List.any_eq_true.2 ⟨x, List.mem_of_getElem? hx, hp⟩
end
def bt (s : ByteArray) (i : Nat) : Int := Y6 s i
def yhW : ByteArray := ⟨#[43, 45, 42, 47, 60, 61, 62, 63, 33, 95, 46]⟩
def zE (c : Int) : Bool := Zb c || (Zc c || decide (0 ≤ Lib.indexByte [43, 45, 42, 47, 60, 61, 62, 63, 33, 95, 46] c.toNat.toUInt8))
def ygG (c : Int) : Bool := (List.range 11).any (fun k => c == Y6 yhW k)
def letter (c : Int) : Bool := ygG c || (Zc c || Zb c)
def zw (lt : Int → Bool) (s : ByteArray) : Bool :=
 !((s.size : Int) == 0 || decide ((40 : Int) < s.size) || Zc (bt s 0) || (bt s 0 == 45 && decide ((1 : Int) < s.size) && Zc (bt s 1))) && (List.range s.size).all (fun i => lt (bt s i))

mutual
def formed : D → Bool
 | .mk k n t l => if k == 1 then decide (t = es) && (l.length : Int) == 0 else if k == 2 then n == 0 && (l.length : Int) == 0 && zw zE t else if k == 3 then n == 0 && decide (t = es) && formeds l else false
def formeds : List D → Bool
 | [] => true
 | d :: l => formed d && formeds l
end
theorem yeX : ∀ l : List D, formeds l = !l.any fun d => !formed d
 | [] => rfl
 | d :: l => by simp [formeds, yeX l]
theorem zc (d : D) : formed d = if d.kind == 1 then decide (d.text = es) && (d.kids.length : Int) == 0 else if d.kind == 2 then d.num == 0 && (d.kids.length : Int) == 0 && zw zE d.text else if d.kind == 3 then d.num == 0 && decide (d.text = es) && !d.kids.any (fun d => !formed d) else false := by
 cases d; simp only [formed, yeX, D.kind, D.num, D.text, D.kids]; rfl

theorem zA {s : ByteArray} {k : Nat} : Y6 s (k : Int) = bt s k := rfl
theorem bt0 {s : ByteArray} : Y6 s 0 = bt s 0 := rfl
theorem bt1 {s : ByteArray} : Y6 s 1 = bt s 1 := rfl
theorem YE {f : Nat → Bool} {n : Nat} (h : NotYet (fun i => !f i) (List.range n) n) : (List.range n).all f = true := by
 rw [List.all_eq_true]
 intro i hi
 have := h i i (List.mem_range.1 hi) (by simp [List.mem_range.1 hi])
 simpa using this
theorem ZP {f : Nat → Bool} {n k : Nat} (hk : k < n) (h : f k = false) : (List.range n).all f = false := by
 rw [List.all_eq_false]
 exact ⟨k, List.mem_range.2 hk, by simp [h]⟩

theorem yj5 {α β : Type} {a : List α} {b : List β} {k : Nat} {x : α} {y : β} (hx : a[k]? = some x) (hy : b[k]? = some y) : (a.zip b)[k]? = some (x, y) := by
 rw [List.getElem?_zip_eq_some]; exact ⟨hx, hy⟩

theorem yc7 {α : Type} {p : α → Bool} {l : List α} {k : Nat} {x : α} (h : NotYet p l k) (hx : l[k]? = some x) (hp : p x = true) : l.find? p = some x := by
 rw [List.find?_eq_some_iff_getElem]
 obtain ⟨h1, h2⟩ := List.getElem?_eq_some_iff.1 hx
 refine ⟨hp, k, h1, h2, fun j hj => ?_⟩
 have := h j l[j] hj (by simp)
 simp [this]
theorem ydt {α : Type} {p : α → Bool} {l : List α} (h : NotYet p l l.length) : l.find? p = none := by
 rw [List.find?_eq_none]
 intro x hx; simp [h.all x hx]
mutual
def Z1 (st : Int → Nat → Int) : Int → Nat → D → Int
 | c, n, .mk _ _ _ l => Yh st (st c n) (n + 1) l
def Yh (st : Int → Nat → Int) : Int → Nat → List D → Int
 | c, _, [] => c
 | c, n, d :: l => Yh st (Z1 st c n d) n l
end
theorem yo6 {st : Int → Nat → Int} {c : Int} {n : Nat} {d : D} : Z1 st c n d = Yh st (st c n) (n + 1) d.kids := by cases d; rfl
theorem yeV {st : Int → Nat → Int} : ∀ {c : Int} {n : Nat} {l : List D} {x : D}, Yh st c n (l ++ [x]) = Z1 st (Yh st c n l) n x
 | c, n, [], x => rfl
 | c, n, y :: l, x => by simp only [List.cons_append, Yh]; exact yeV

def setC (σ : Store) (o : Nat) (v : Int) : Store := { σ with objs := σ.objs.set o (.box [.pv (.int .i64 v)]) }
def yh2 (o : Nat) (v : Int) (σ : Store) (r : AV) (σ' : Store) : Prop := r = .pv (.bool true) ∧ σ' = setC σ o v
section
variable {σ : Store} {o : Nat} {v c : Int}
theorem ynL : (setC σ o v).cut σ.objs.length σ.toks.length = setC σ o v := by simp [setC, Store.cut, List.take_of_length_le]
theorem ycT (h : σ.objs[o]? = some (.box [.pv (.int .i64 c)])) : (setC σ o v).objs[o]? = some (.box [.pv (.int .i64 v)]) := by
 have := (List.getElem?_eq_some_iff.1 h).1
 simp [setC, this]
theorem ybp {ob : AObj} (h : ob ∈ (setC σ o v).objs) (a b d : Nat) : ob ∈ σ.objs ∨ ob.clo a b d = true := by
 rcases List.mem_or_eq_of_mem_set h with h | rfl
 ·exact .inl h
 ·exact .inr rfl
theorem PathAt.scr {x : AV} {n : Nat} (h : PathAt σ x n) : ∃ o cap, x = .scr o n cap := by
 rcases h with ⟨o, rfl, rfl⟩ | ⟨o, cap, rfl, _⟩
 ·exact ⟨o, 0, rfl⟩
 ·exact ⟨o, cap, rfl⟩
theorem PathAt.setC {x : AV} {n : Nat} (h : PathAt σ x n) (hc : σ.objs[o]? = some (.box [.pv (.int .i64 c)])) : PathAt (Aw.setC σ o v) x n := by
 rcases h with h | ⟨po, cap, rfl, h1, h2, h3⟩
 ·exact .inl h
 ·refine .inr ⟨po, cap, rfl, h1, h2, ?_⟩
  have hne : o ≠ po := by
   rintro rfl
   rw [h3] at hc
   simp only [Option.some.injEq, AObj.box.injEq] at hc
   cases cap with
   | zero => omega
   | succ k => simp [List.replicate_succ] at hc
  simp only [Aw.setC]
  rw [List.getElem?_set_ne hne]; exact h3
theorem ynX {objs' : List AObj} {ob : AObj} (h : objs' = σ.objs ∨ ∃ cap, objs' = σ.objs ++ [.box (List.replicate cap .junk)]) (hc : σ.objs[o]? = some ob) : objs'[o]? = some ob := by
 rcases h with rfl | ⟨cap, rfl⟩
 ·exact hc
 ·exact yL hc
theorem ynt {objs' : List AObj} {v' : Int} (ho : o < σ.objs.length) (h : objs' = (setC σ o v).objs ∨ ∃ cap, objs' = (setC σ o v).objs ++ [.box (List.replicate cap .junk)]) :
  (setC { setC σ o v with objs := objs' } o v').cut σ.objs.length σ.toks.length = setC σ o v' := by
 rcases h with rfl | ⟨cap, rfl⟩
 ·simp [setC, Store.cut, List.take_of_length_le]
 ·have hl : o < (σ.objs.set o (.box [.pv (.int .i64 v)])).length := by simpa using ho
  simp only [setC, Store.cut]
  rw [List.set_append_left _ _ hl]
  simp [List.take_append, List.take_of_length_le]
end
def yam (c : Int) (_ : Nat) : Int := IntKind.i64.wrap (c + 1)
def ybg (c : Int) (n : Nat) : Int := if IntKind.i64.wrap (n + 1) > c then IntKind.i64.wrap (n + 1) else c

mutual
def D.deep : D → Nat
 | .mk _ _ _ l => 1 + D.deeps l
def D.deeps : List D → Nat
 | [] => 0
 | d :: l => max d.deep (D.deeps l)
end
mutual
theorem D.deep_le_size : ∀ d : D, d.deep ≤ d.size
 | .mk _ _ _ l => by simp only [D.deep, D.size]; have := D.deeps_le_sizes l; omega
theorem D.deeps_le_sizes : ∀ l : List D, D.deeps l ≤ D.sizes l
 | [] => Nat.le_refl _
 | d :: l => by
  simp only [D.deeps, D.sizes]
  have h1 := D.deep_le_size d
  have h2 := D.deeps_le_sizes l
  omega
end
mutual
theorem yeC : ∀ (d : D) (c n : Nat), c + d.size ≤ 2000000000 → Z1 yam c n d = ((c + d.size : Nat) : Int)
 | .mk _ _ _ l, c, n, h => by
  simp only [D.size] at h
  simp only [Z1, yam, D.size]
  rw [yi8 (by omega), ydr l (c + 1) (n + 1) (by omega)]
  congr 1; omega
theorem ydr : ∀ (l : List D) (c n : Nat), c + D.sizes l ≤ 2000000000 → Yh yam c n l = ((c + D.sizes l : Nat) : Int)
 | [], c, n, h => by simp [Yh, D.sizes]
 | d :: l, c, n, h => by
  simp only [D.sizes] at h
  simp only [Yh, D.sizes]
  rw [yeC d c n (by omega), ydr l (c + d.size) n (by omega)]
  congr 1; omega
end
mutual
theorem yga : ∀ (d : D) (m n : Nat), n + d.deep ≤ 2000000000 → Z1 ybg m n d = ((max m (n + d.deep) : Nat) : Int)
 | .mk _ _ _ l, m, n, h => by
  simp only [D.deep] at h
  simp only [Z1, ybg, D.deep]
  rw [yi8 (by omega)]
  have e : (if ((n + 1 : Nat) : Int) > (m : Int) then ((n + 1 : Nat) : Int) else (m : Int)) = ((max m (n + 1) : Nat) : Int) := by
   split <;> omega
  rw [e, yeL l (max m (n + 1)) (n + 1) (by omega)]
  by_cases hl : l = []
  ·subst hl; simp only [if_true, D.deeps, Nat.add_zero]
  ·rw [if_neg hl]; omega
theorem yeL : ∀ (l : List D) (m n : Nat), n + D.deeps l ≤ 2000000000 → Yh ybg m n l = ((if l = [] then m else max m (n + D.deeps l) : Nat) : Int)
 | [], m, n, h => by simp [Yh]
 | d :: l, m, n, h => by
  simp only [D.deeps] at h
  simp only [Yh, D.deeps]
  rw [yga d m n (by omega), yeL l (max m (n + d.deep)) n (by omega)]
  congr 1
  simp only [reduceCtorEq, if_false]
  split
  ·subst_vars; simp only [D.deeps]; omega
  ·omega
end
theorem ydP {σ : Store} {v c : Int} : (setC { σ with objs := σ.objs ++ [.box [.pv (.int .i64 c)]] } σ.objs.length v).cut σ.objs.length σ.toks.length = σ := by
 simp [setC, Store.cut]
theorem ydH {σ : Store} {v c : Int} : (setC { σ with objs := σ.objs ++ [.box [.pv (.int .i64 c)]] } σ.objs.length v).objs[σ.objs.length]? = some (.box [.pv (.int .i64 v)]) := ycT (c := c) (by simp)
def dcheck (d : D) : Int := if (!formed d) = true then 4 else if decide ((100000 : Int) < d.size) = true then 3 else if decide ((1000 : Int) < d.deep) = true then 3 else 0
end Go.Aw

namespace Go.Aw
open Go
theorem yC {l : List D} {i : Nat} {x : D} (h : l[i]? = some x) : l.getD i dnone = x := by simp [List.getD, h]

def d1 (l : List D) : D := l.getD 1 dnone
end Go.Aw

namespace Go.Aw
open Go
def d2 (l : List D) : D := l.getD 2 dnone
end Go.Aw

namespace Go.Aw
open Go
theorem ZX : ∀ (l r : List D), D.sizes (l ++ r) = D.sizes l + D.sizes r
 | [], r => by simp [D.sizes]
 | x :: l, r => by simp only [List.cons_append, D.sizes, ZX l r]; omega
@[go_sem high] theorem ys6 (x : D) : Y0 4 0 [(0, AV.pv (enc x))] = some [enc x] := by simp [Y0, toPV, zG, ygH, zQ]

@[go_sem] theorem ysM {α : Type} {l : List α} {a : α} : (l ++ [a])[l.length]? = some a := by simp
@[go_sem] theorem ysn {α : Type} {l : List α} {a b : α} : (l ++ [a, b])[l.length]? = some a := by simp
@[go_sem] theorem ysV {α : Type} {l : List α} {a b : α} : (l ++ [a, b])[l.length + 1]? = some b := by simp
@[go_sem] theorem ysP {α : Type} {l : List α} {a b c : α} : (l ++ [a, b, c])[l.length + 2]? = some c := by simp

theorem yhb {d x : D} {r : List D} (h : d.kids = x :: r) : d.head = x := by unfold D.head; rw [h]; rfl
end Go.Aw
