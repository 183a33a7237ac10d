/- Part of the proof that the statement holds for every input that its row lets in: an own logic of abstract values over the given model, and laws of data and programs; no program is named in it. -/
import Derived.Test.YtnibcmaaehkhlaaGreatDoorZA2
import Derived.Test.YtnibcmaaehkhlaaGreatDoorZA3
import Derived.Laws.MakeOwn
import Derived.ProofKit
import Derived.LaidMore
import Derived.OpenShut
import Derived.Stop.Joined
import Derived.StringKeys
import Derived.Shelf.SlIter.Sorted
import Derived.Shelf.SlIter.Keys
import Derived.Shelf.SortM.Plain
import Derived.Shelf.SortM.SortNone
import Derived.LaidLaws
set_option linter.unusedSimpArgs false
set_option linter.unusedVariables false
namespace Go.Aw
open Go
section
variable {ρ : Option Nat} {P : Program} {ty : TyT} {g0 g : Ghost} {σ0 σ : Store} {w0 w : World} {N M : Nat} {s : St} {a : Act} {tk : List Tok} {L : List (List AV)}
theorem putObj_setBlk (w : World) (b : Nat) (ob : Obj) : w.putObj b ob = setBlk w b ob := rfl

/-- The record of a loop turns. -/
theorem Inv.setRec (h : Inv g σ L w) {o b l : Nat} {st : LoopState} {pe : Option Code} {T : List (Nat × AV)} {ps : Array Tmp} {asg body : Code} (hi : g.io[o]? = some b) (ho : σ.objs[o]? = some (.loop l st pe T M ps asg body)) :
    b = l ∧ ∃ r : Loop, w.heap[b]? = some (.loop r) ∧ r.state = st ∧ r.pending = pe ∧ r.params = ps ∧ r.assign = asg ∧ r.body = body ∧ r.tmps.size = M ∧ (∀ t, RA g σ.toks w (get T t) (r.tmps.getD t undef)) ∧ (∀ x, x ∈ T.map (·.2) → x.noL = true) ∧
      ∀ st' pe', Inv g { σ with objs := σ.objs.set o (.loop l st' pe' T M ps asg body) } L (w.putObj b (.loop { r with state := st', pending := pe' })) ∧
        Le g σ.toks w g σ.toks (w.putObj b (.loop { r with state := st', pending := pe' })) ∧ ∀ c : Nat, g.K c → (w.putObj b (.loop { r with state := st', pending := pe' })).heap[c]? = w.heap[c]? := by
  obtain ⟨⟨hbl, hnl, hnd⟩, fn, tmps, D, k1, k2, k3⟩ := h.objs o _ b ho hi
  refine ⟨hbl, _, k1, rfl, rfl, rfl, rfl, rfl, k2, k3, hnl, fun st' pe' => ?_⟩
  rw [putObj_setBlk]
  obtain ⟨le, hK⟩ := h.turn (ob := .loop { state := st', pending := pe', fn, tmps, params := ps, assign := asg, body, defers := D }) k1 (.inl (List.mem_of_getElem? hi))
  refine ⟨?_, le, hK⟩
  have ap := h.apart
  have hbm : b ∈ g.io := List.mem_of_getElem? hi
  refine ⟨by simp [h.lio], h.llam, h.ltb, fun n p hp => (h.glob n p hp).mono le.keeps, h.nodup, fun c hc => by rw [setBlk_size]; exact h.low c hc, fun c hc => by rw [setBlk_size]; exact h.kept c hc, by rw [setBlk_size]; exact h.base, fun c o hS => by rw [setBlk_size]; exact h.cells c o hS, fun j ob c ho' hio => ?_, fun j cs' c hL hl => ?_, fun k t tb ht htb => ?_⟩
  · simp only [List.getElem?_set] at ho'
    split at ho'
    · subst_vars
      rw [hi] at hio; cases hio
      split at ho'
      · cases ho'
        exact ⟨⟨rfl, hnl, hnd⟩, fn, tmps, D, setBlk_at k1, rfl, fun t => (k3 t).mono le (fun _ _ h => h)⟩
      · cases ho'
    · refine (h.objs j ob c ho' hio).mono le (fun _ _ h => h) (setBlk_other ?_)
      rintro rfl; exact ‹¬ o = j› (nodup_get ap.1.1 hi hio)
  · refine (h.priv j cs' c hL hl).mono le (fun _ _ h => h) (setBlk_other ?_)
    rintro rfl; exact ap.2.1 _ hbm (List.mem_of_getElem? hl)
  · obtain ⟨cur, h1, h2⟩ := h.toks k t tb ht htb
    refine ⟨cur, (setBlk_other ?_).trans h1, h2⟩
    intro he; exact (ap.2.2 k tb htb).1 (he ▸ hbm)

/-- The record in the store turns. -/
def Store.rec_ (σ : Store) (o l : Nat) (st : LoopState) (pe : Option Code) (T : List (Nat × AV)) (M : Nat) (ps : Array Tmp) (asg body : Code) : Store := { σ with objs := σ.objs.set o (.loop l st pe T M ps asg body) }

theorem RelG.setRec (r : RelG g0 σ0 w0 N g s a w) {o b l : Nat} {st : LoopState} {pe : Option Code} {T : List (Nat × AV)} {ps : Array Tmp} {asg body : Code} (hi : g.io[o]? = some b) (ho : s.σ.objs[o]? = some (.loop l st pe T M ps asg body)) :
    b = l ∧ ∃ r : Loop, w.heap[l]? = some (.loop r) ∧ r.state = st ∧ r.pending = pe ∧
      ∀ st' pe', RelG g0 σ0 w0 N g { s with σ := s.σ.rec_ o l st' pe' T M ps asg body } a (w.putObj l (.loop { r with state := st', pending := pe' })) := by
  obtain ⟨rfl, rc, k1, k2, k3, k4, k5, k6, k7, k8, k9, k10⟩ := r.2.1.setRec hi ho
  refine ⟨rfl, rc, k1, k2, k3, fun st' pe' => ?_⟩
  obtain ⟨j1, j2, j3⟩ := k10 st' pe'
  exact r.later (σ' := s.σ.rec_ o b st' pe' T M ps asg body) (L' := s.L) j2 (fun _ _ h => h) j1 rfl rfl j3 (by rw [World.putObj_size]; exact Nat.le_refl _) rfl rfl rfl

/-- A call of yield. -/
def ACallsY (P : Program) (l : Nat) (args : List AV) (σ : Store) (R : AV → Store → Prop) : Prop :=
  ∀ g w (cargs : List Value), Inv g σ [] w → cargs.length = args.length → (∀ (i : Nat) x v, args[i]? = some x → cargs[i]? = some v → RA g σ.toks w x v) →
    ∃ fn tmps asg body, (Instr.yield l cargs.toArray).run P w = .ok (.round l fn tmps asg body) w ∧
      RoundIn Fence.wide 0 P l fn tmps asg body w fun e w' => ∃ v r σ' g', e = .returned v ∧ R r σ' ∧ Inv g' σ' [] w' ∧ Ext g σ w g' σ' w' ∧ RA g' σ'.toks w' r v

theorem ACallsY.mono {l : Nat} {args : List AV} {R R' : AV → Store → Prop} (h : ACallsY P l args σ R) (k : ∀ r σ', R r σ' → R' r σ') : ACallsY P l args σ R' := by
  intro g w cargs h1 h2 h3
  obtain ⟨fn, tmps, asg, body, k1, k2⟩ := h g w cargs h1 h2 h3
  exact ⟨fn, tmps, asg, body, k1, k2.mono fun _ _ ⟨v, r, σ', g', e1, e2, e3⟩ => ⟨v, r, σ', g', e1, k _ _ e2, e3⟩⟩

theorem ACallsY.args {l : Nat} {xs ys : List AV} {R : AV → Store → Prop} (h : ACallsY P l ys σ R) (hw : WAs xs ys) : ACallsY P l xs σ R := by
  intro g w cargs h1 h2 h3
  obtain ⟨k1, k2⟩ := WAs_get hw
  refine h g w cargs h1 (by rw [h2, k1]) (fun i x v hx hv => ?_)
  have hi : i < xs.length := by rw [k1]; exact (List.getElem?_eq_some_iff.1 hx).1
  exact (h3 i xs[i] v (by simp) hv).wa (k2 i xs[i] x (by simp) hx)

/-- What a round begins with. -/
def argsT (ps : List Tmp) (args : List AV) (T : List (Nat × AV)) : List (Nat × AV) := (ps.zip args).foldl (fun T p => p :: T) T

theorem argsT_rel : ∀ (ps : List Tmp) (args : List AV) (cargs : List Value) (T : List (Nat × AV)) (tmps : Array Value), cargs.length = args.length → tmps.size = N → (∀ p, p ∈ ps → p < N) → (∀ (i : Nat) x v, args[i]? = some x → cargs[i]? = some v → RA g tk w x v) →
    (∀ t, RA g tk w (get T t) (tmps.getD t undef)) →
    ((ps.zip cargs).foldl (fun tmps (p : Tmp × Value) => tmps.setIfInBounds p.1 p.2) tmps).size = N ∧ ∀ t, RA g tk w (get (argsT ps args T) t) (((ps.zip cargs).foldl (fun tmps (p : Tmp × Value) => tmps.setIfInBounds p.1 p.2) tmps).getD t undef)
  | [], args, cargs, T, tmps, _, hN, _, _, h => by simp only [argsT, List.zip_nil_left, List.foldl_nil]; exact ⟨hN, h⟩
  | p :: ps, [], [], T, tmps, _, hN, _, _, h => by simp only [argsT, List.zip_nil_right, List.foldl_nil]; exact ⟨hN, h⟩
  | p :: ps, [], _ :: _, T, tmps, hl, _, _, _, _ => by simp at hl
  | p :: ps, _ :: _, [], T, tmps, hl, _, _, _, _ => by simp at hl
  | p :: ps, x :: args, v :: cargs, T, tmps, hl, hN, hp, hr, h => by
    simp only [argsT, List.zip_cons_cons, List.foldl_cons]
    refine argsT_rel ps args cargs ((p, x) :: T) (tmps.setIfInBounds p v) (by simpa using hl) (by simpa using hN) (fun q hq => hp q (by simp [hq])) (fun i y u hy hu => hr (i + 1) y u (by simpa using hy) (by simpa using hu)) (fun t => ?_)
    simp only [get]
    by_cases e : p = t
    · subst e
      rw [if_pos rfl]
      have : (tmps.setIfInBounds p v).getD p undef = v := by
        simp only [Array.getD_eq_getD_getElem?, Array.getElem?_setIfInBounds]
        have hpN : p < tmps.size := by rw [hN]; exact hp p (by simp)
        simp [hpN]
      rw [this]
      exact hr 0 x v rfl rfl
    · rw [if_neg e]
      have : (tmps.setIfInBounds p v).getD t undef = tmps.getD t undef := by
        simp only [Array.getD_eq_getD_getElem?, Array.getElem?_setIfInBounds]
        rw [if_neg e]
      rw [this]; exact h t

/-- How a round may be left. -/
def RoundEnds (o l : Nat) (R : AV → Store → Prop) (e : Exit) (s : St) : Prop :=
  ∃ pe T M ps asg body, s.σ.objs[o]? = some (.loop l .busy pe T M ps asg body) ∧ match e with
    | .normal => R (.pv (.bool true)) (s.σ.rec_ o l .ready none T M ps asg body)
    | .ret => R (.pv (.bool false)) (s.σ.rec_ o l .done (some .ret) T M ps asg body)
    | .exit id => R (.pv (.bool false)) (s.σ.rec_ o l .done (some (.exit id)) T M ps asg body)
    | .goto t => R (.pv (.bool false)) (s.σ.rec_ o l .done (some (.goto t)) T M ps asg body)
    | _ => False

/-- The loop's left sides have been set: the round begins. -/
def Begun (ρ : Option Nat) (P : Program) (σ0 : Store) (N o l : Nat) (body : Code) (Q : Exit → St → Prop) (s : St) : Prop :=
  ∃ pe T M ps asg bd, s.σ.objs[o]? = some (.loop l .ready pe T M ps asg bd) ∧ AWpR ρ P σ0 N body Q { s with σ := s.σ.rec_ o l .busy pe T M ps asg bd }

def OnlyNormal (next : St → Prop) : Exit → St → Prop
  | .normal, s => next s
  | _, _ => False

theorem acallsY_of {o l : Nat} {pe : Option Code} {T : List (Nat × AV)} {ps : Array Tmp} {asg body : Code} {args : List AV} {R : AV → Store → Prop} (ho : σ.objs[o]? = some (.loop l .ready pe T N ps asg body)) (hlen : args.length = ps.size) (hps : ps.toList.all (fun p => decide (p < N)) = true)
    (h : AWpR (some l) P σ N asg (OnlyNormal (Begun (some l) P σ N o l body (RoundEnds o l R))) ⟨argsT ps.toList args T, [], σ⟩) : ACallsY P l args σ R := by
  intro g w cargs hinv hl hargs
  have hlt : o < g.io.length := by rw [hinv.lio]; exact (List.getElem?_eq_some_iff.1 ho).1
  have hio : g.io[o]? = some g.io[o] := List.getElem?_eq_getElem hlt
  generalize g.io[o] = b at hio
  obtain ⟨rfl, rc, k1, k2, k3, k4, k5, k6, k7, k8, k9, _⟩ := hinv.setRec hio ho
  have hy := run_yield (P := P) (args := cargs.toArray) k1 (by rw [k4, ← hlen, ← hl]; simp)
  rw [k4, k5, k6] at hy
  refine ⟨_, _, _, _, hy, roundIn_of_wpIn trivial ?_⟩
  have hp : ∀ p, p ∈ ps.toList → p < N := fun p hp => by simpa using List.all_eq_true.1 hps p hp
  obtain ⟨j1, j2⟩ := argsT_rel (tk := σ.toks) ps.toList args cargs T rc.tmps hl k7 hp hargs k8
  have hz : (ps.zip cargs.toArray).foldl (fun tmps (t, a) => tmps.setIfInBounds t a) rc.tmps = (ps.toList.zip cargs).foldl (fun tmps (p : Tmp × Value) => tmps.setIfInBounds p.1 p.2) rc.tmps := by
    rw [← Array.foldl_toList, Array.toList_zip]
  rw [hz]
  have hrel : RelG g σ w N g ⟨argsT ps.toList args T, [], σ⟩ { tmps := (ps.toList.zip cargs).foldl (fun tmps (p : Tmp × Value) => tmps.setIfInBounds p.1 p.2) rc.tmps, defers := [] } w :=
    ⟨Ext.refl hinv, hinv, j1, Marks.nil, j2⟩
  refine wpIn_mono (F := wF (some b)) (h g w _ w ⟨g, hrel⟩) ?_
  rintro e a1 w1 ⟨s1, q, g1, r1⟩
  cases e with
  | normal =>
    obtain ⟨pe1, T1, M1, ps1, asg1, bd1, ho1, hb⟩ := q
    obtain ⟨_, rc1, m1, m2, m3, m4⟩ := r1.setRec (r1.1.le.io o b hio) ho1
    refine ⟨_, run_beginRound m1 m2, ?_⟩
    have hrc : ({ rc1 with state := .busy } : Loop) = { rc1 with state := .busy, pending := pe1 } := by rw [← m3]
    rw [hrc]
    refine wpIn_mono (F := wF (some b)) (hb g w a1 _ ⟨g1, m4 .busy pe1⟩) ?_
    rintro e2 a2 w2 ⟨s2, ⟨pe2, T2, M2, ps2, asg2, bd2, ho2, hR⟩, g2, r2⟩
    obtain ⟨_, rc2, n1, n2, n3, n4⟩ := r2.setRec (r2.1.le.io o b hio) ho2
    have fin : ∀ (jump : Option Code), R (.pv (.bool jump.isNone)) (s2.σ.rec_ o b (if jump.isNone then .ready else .done) jump T2 M2 ps2 asg2 bd2) →
        ∃ v w', (Instr.endRound b jump).run P w2 = .ok v w' ∧ ∃ v' r σ' g', Ending.returned v = .returned v' ∧ R r σ' ∧ Inv g' σ' [] w' ∧ Ext g σ w g' σ' w' ∧ RA g' σ'.toks w' r v' := by
      intro jump hR
      have r3 := n4 (if jump.isNone then .ready else .done) jump
      refine ⟨_, _, run_endRound jump n1, _, _, _, { g2 with lam := [] }, rfl, hR, r3.2.1.noPriv, ⟨⟨r3.1.le.B, r3.1.le.keeps, r3.1.le.io, r3.1.le.tok⟩, r3.1.gl, r3.1.K, r3.1.blk, r3.1.size, r3.1.os, r3.1.tape, r3.1.output, r3.1.io0, r3.1.clo0⟩, .pv .bool⟩
    cases e2 with
    | normal => exact fin none hR
    | ret => exact fin (some .ret) hR
    | exit id => exact fin (some (.exit id)) hR
    | goto t => exact fin (some (.goto t)) hR
    | panic => exact hR.elim
    | outgrown => exact hR.elim
  | ret => exact q.elim
  | exit id => exact q.elim
  | goto t => exact q.elim
  | panic => exact q.elim
  | outgrown => exact q.elim

theorem aop_yield {next : St → Prop} {o : Oper} {c : Call} {fo : Operand} {l : Nat} {caps : List AV} (ho : o.op = .call c) (hc : c.callee = .value fo) (hf : ev s fo = .func (.yield l) caps) (hnl : AV.noLs (c.args.toList.map (ev s)) = true) (hd : dstOk N o.dst = true)
    (h : ACallsY P l (c.args.toList.map (ev s)) s.σ fun r σ' => next (({ s with σ := σ' } : St).put o.dst r)) : AOp P σ0 N o next s := by
  rintro g0 w0 a w nx Q ⟨g, r⟩ hnext
  have hfv := r.ev fo
  rw [hf] at hfv
  generalize hv : a.eval fo = fv at hfv
  cases hfv with
  | func hl hr =>
    rename_i vs
    have hnl' := AV.noLs_iff.1 hnl
    obtain ⟨fn, tmps, asg, body, k1, k2⟩ := h _ w (c.args.toList.map a.eval) r.2.1.toCallee (by simp) (fun i x v hx hv => (r.evs c.args.toList i x v hx hv).toCallee (hnl' x (List.mem_of_getElem? hx)) _ _)
    have hargs : (c.args.toList.map a.eval).toArray = c.args.map a.eval := Array.ext' (by simp)
    rw [hargs] at k1
    have hrun : (execOp a.eval o).run P w = .ok (.round l fn tmps asg body) w := by
      simp only [execOp, ho, resolve, hc, hv, Deferred.ofValue, Sem.run_bind, Sem.run_pure, Result.andThen_ok, invoke]
      simpa using k1
    unfold opW
    rw [hrun]
    refine RoundIn.mono k2 ?_
    rintro e w' ⟨v, rr, σ', g', rfl, hR, hinv, hext, hra⟩
    obtain ⟨i1, le1⟩ := r.2.1.fromCallee hinv hext
    have r' := r.later (σ' := σ') (L' := s.L) le1 (fun _ _ h => h) i1 rfl hext.gl (fun b hb => hext.blk b (.inl hb)) hext.size hext.os hext.tape hext.output
    have hg : g' = { g' with lam := [] } := by
      have : g'.lam = [] := List.eq_nil_of_length_eq_zero (by rw [hinv.llam]; rfl)
      cases g'; simp_all
    rw [hg] at hra
    exact hnext _ _ _ hR ⟨_, r'.put (hra.noLam _ _) hd⟩

theorem al_yield {ops : Array Oper} {os : List Oper} {o : Oper} {K : St → Prop} {c : Call} {fo : Operand} {l : Nat} {xs args caps : List AV} {R : AV → Store → Prop} (hg : o.guard = none) (ho : o.op = .call c) (hc : c.callee = .value fo) (hf : ev s fo = .func (.yield l) caps) (h : ACallsY P l args s.σ R)
    (hargs : c.args.toList.map (ev s) = xs) (hw : WAs xs args) (hnl : AV.noLs xs = true) (hd : dstOk N o.dst = true) (k : ∀ r σ', R r σ' → AOpsL P σ0 N ops os K (({ s with σ := σ' } : St).put o.dst r)) : AOpsL P σ0 N ops (o :: os) K s := by
  subst hargs
  exact al_cons hg (aop_yield ho hc hf hnl hd ((h.args hw).mono k))

/-- What a loop's rounds begin with: these slots. -/
def keepT (T : List (Nat × AV)) (slots : List Nat) : List (Nat × AV) := slots.map fun t => (t, get T t)
theorem get_keepT (T : List (Nat × AV)) (t : Nat) : ∀ slots : List Nat, get (keepT T slots) t = if t ∈ slots then get T t else .junk
  | [] => rfl
  | x :: r => by
    have ih := get_keepT T t r
    simp only [keepT, List.map_cons, get] at ih ⊢
    by_cases h : x = t
    · subst h; simp
    · rw [if_neg h, ih]
      simp [Ne.symm h]

/-- How the function that is ranged over may end. -/
def RangeEnds (P : Program) (σ0 : Store) (N : Nat) (o l : Nat) (Q : Exit → St → Prop) (s : St) (σ' : Store) : Prop :=
  ∃ st pe T M ps asg body, σ'.objs[o]? = some (.loop l st pe T M ps asg body) ∧ st ≠ .busy ∧
    match pe with
    | none => Q .normal { s with σ := σ'.rec_ o l .exhausted none T M ps asg body }
    | some c => AWp P σ0 N c Q { s with σ := σ'.rec_ o l .exhausted (some c) T M ps asg body }

theorem Inv.addK (h : Inv g σ L w) {D : Nat} (f : Fresh g w D) : Inv { g with K := fun b => g.K b ∨ b = D } σ L w ∧ Le g σ.toks w { g with K := fun b => g.K b ∨ b = D } σ.toks w := by
  have le : Le g σ.toks w { g with K := fun b => g.K b ∨ b = D } σ.toks w := ⟨rfl, Keeps.refl _ _ _, fun _ _ h => h, fun _ t h => ⟨t, h, rfl, rfl, Nat.le_refl _, fun _ => rfl⟩⟩
  refine ⟨⟨h.lio, h.llam, h.ltb, h.glob, h.nodup, fun b hb => ⟨(h.low b hb).1, (h.low b hb).2.1, ?_⟩, fun b hb => ?_, h.base, h.cells, fun o ob b ho hio => (h.objs o ob b ho hio).mono le (fun _ _ h => h) rfl, fun i cs b hL hl => (h.priv i cs b hL hl).mono le (fun _ _ h => h) rfl, h.toks⟩, le⟩
  · rintro (hK | rfl)
    · exact (h.low b hb).2.2 hK
    · exact f.own hb
  · rcases hb with hb | rfl
    · exact h.kept b hb
    · exact ⟨f.lt, f.S⟩

theorem awp_rangeFunc {Q : Exit → St → Prop} {gop : Operand} {ps : Array Tmp} {asg body : Code} {gf : FuncId} {caps : List AV} (slots : List Nat) (hg : ev s gop = .func (.func gf) caps) (hca : Callable P gf) (hnl : AV.noLs caps = true) (hT : (keepT s.T slots).all (fun p => p.2.noL) = true) (hnd : slots.Nodup)
    (h : ∀ l : Nat, ACalls P gf (.func (.yield l) [] :: caps) { s.σ with objs := s.σ.objs ++ [.loop l .ready none (keepT s.T slots) N ps asg body] } fun _ σ' => RangeEnds P σ0 N s.σ.objs.length l Q s σ') :
    AWp P σ0 N (.rangeFunc gop ps asg body) Q s := by
  rintro g0 w0 a w ⟨g, r⟩
  have hgv := r.ev gop
  rw [hg] at hgv
  generalize hv : a.eval gop = gv at hgv
  obtain ⟨D, hD⟩ : ∃ D, D = w.heap.size := ⟨_, rfl⟩
  obtain ⟨r1, f1⟩ := r.alloc (.deferred (some []))
  rw [← hD] at f1
  obtain ⟨i2, le2⟩ := r1.2.1.addK f1
  have hDn : ¬ g.K D := f1.K
  obtain ⟨Ds, d1, d2, d3⟩ := r1.2.2.2.1
  have hDh : (w.alloc (.deferred (some []))).heap[D]? = some (.deferred (some [])) := by rw [hD]; exact heap_alloc_at w _
  have r2 : RelG g0 σ0 w0 N { g with K := fun b => g.K b ∨ b = D } s { a with defers := { target := .collected D, args := #[] } :: a.defers } (w.alloc (.deferred (some []))) := by
    refine ⟨⟨r1.1.le.trans le2, r1.1.gl, fun b hb => .inl (r1.1.K b hb), r1.1.blk, r1.1.size, r1.1.os, r1.1.tape, r1.1.output, r1.1.io0, r1.1.clo0⟩, i2, r1.2.2.1, ⟨D :: Ds, by simp [d1], List.nodup_cons.2 ⟨fun hm => hDn (d3 D hm).1, d2⟩, fun D' hD' => ?_⟩, fun t => (r1.2.2.2.2 t).mono le2 fun _ _ h => h⟩
    rcases List.mem_cons.1 hD' with rfl | hD'
    · exact ⟨.inr rfl, fun h0 => hDn (r1.1.K _ h0), f1.low, hDh⟩
    · have := d3 D' hD'
      exact ⟨.inl this.1, this.2⟩
  obtain ⟨l, hl⟩ : ∃ l, l = w.heap.size + 1 := ⟨_, rfl⟩
  have hl1 : l = (w.alloc (.deferred (some []))).heap.size := by rw [hl]; simp
  refine wpIn_rangeFunc (F := wF none) ?_
  intro fn _
  obtain ⟨rec, hrec⟩ : ∃ rec : Loop, rec = { state := .ready, pending := none, fn, tmps := a.tmps, params := ps, assign := asg, body, defers := w.heap.size } := ⟨_, rfl⟩
  obtain ⟨r3, f3⟩ := r2.alloc (.loop rec)
  rw [← hl1] at f3
  have hTn : ∀ x, x ∈ (keepT s.T slots).map (·.2) → x.noL = true := by
    intro x hx
    obtain ⟨p, hp, rfl⟩ := List.mem_map.1 hx
    exact List.all_eq_true.1 hT p hp
  have hob : RObj { g with K := fun b => g.K b ∨ b = D } s.σ.toks ((w.alloc (.deferred (some []))).alloc (.loop rec)) l (.loop l .ready none (keepT s.T slots) N ps asg body) := by
    refine ⟨⟨rfl, hTn, by simpa [keepT, List.map_map, Function.comp_def] using hnd⟩, fn, a.tmps, w.heap.size, by rw [hl1, ← hrec]; exact heap_alloc_at _ _, r.2.2.1, fun t => ?_⟩
    rw [get_keepT]
    split
    · exact r3.2.2.2.2 t
    · exact .junk
  have r4 := r3.addObj f3 hob
  obtain ⟨W1, hW1⟩ : ∃ W1, W1 = (w.alloc (.deferred (some []))).alloc (.loop rec) := ⟨_, rfl⟩
  cases hgv with
  | func hl' hr' =>
    rename_i vs
    obtain ⟨fn', h1, h2, h3⟩ := hca
    have hargs : #[Value.func (.yield l) #[] #[]] ++ vs.toArray = (Value.func (.yield l) #[] #[] :: vs).toArray := Array.ext' (by simp)
    refine ⟨l, [{ target := .collected w.heap.size, args := #[] }], W1, { target := .fn (.func gf) vs.toArray, args := #[.func (.yield l) #[] #[]] }, W1, gf, #[.func (.yield l) #[] #[]] ++ vs.toArray, W1, by rw [hl, hW1, hrec]; exact run_enterLoop_outer _ _ _ _ _, ?_, fun _ _ => trivial, ?_, fun hh => (by cases hh), ?_⟩
    · simp only [resolve, rangeCall, hv, Deferred.ofValue, Sem.run_bind, Sem.run_pure, Result.andThen_ok]
      simp [go_sem]
    · simp only [invoke, callFunc, Sem.run_bind, Sem.run_pure, Result.andThen_ok, run_program, h1, h2, h3]
      simp
    · rw [← hD, hargs, hW1]
      have hnl' := AV.noLs_iff.1 hnl
      have hle : Le g s.σ.toks w { g with K := fun b => g.K b ∨ b = D, io := g.io ++ [l] } (s.σ.toks) ((w.alloc (.deferred (some []))).alloc (.loop rec)) := by
        have e1 := (r.2.1.alloc (.deferred (some []))).2
        have e2 := (r2.2.1.alloc (.loop rec)).2
        exact (e1.trans le2).trans (e2.trans (r3.2.1.addObj f3 hob).2)
      refine CallsIn.mono (F := wF none) (show CallsIn Fence.wide (0 - 1) P gf _ _ _ from callsIn_wide.2 (h l _ _ (Value.func (.yield l) #[] #[] :: vs) r4.2.1.toCallee (by simp [hl']) (fun i x v hx hv => ?_))) ?_
      · cases i with
        | zero => simp at hx hv; subst hx; subst hv; exact .func (vs := []) rfl (fun i x v hx hv => by simp at hx)
        | succ i =>
          simp only [List.getElem?_cons_succ] at hx hv
          exact ((hr' i x v hx hv).mono hle (fun _ _ h => h)).toCallee (hnl' x (List.mem_of_getElem? hx)) _ _
      · rintro e w' ⟨v, rr, σ', g', rfl, ⟨st, pe, T', M', ps', asg', body', ho, hst, hk⟩, hinv, hext, hra⟩
        obtain ⟨i1, le1⟩ := r4.2.1.fromCallee hinv hext
        have r5 := r4.later (σ' := σ') (L' := s.L) le1 (fun _ _ h => h) i1 rfl hext.gl (fun b hb => hext.blk b (.inl hb)) hext.size hext.os hext.tape hext.output
        have hio : g'.io[s.σ.objs.length]? = some l := by
          refine hext.le.io _ _ ?_
          show (g.io ++ [l])[s.σ.objs.length]? = some l
          rw [← r.2.1.lio]; simp
        obtain ⟨_, rc, n1, n2, n3, n4⟩ := r5.setRec (s := { s with σ := σ' }) hio ho
        have hend := run_endLoop (P := P) n1 (by rw [n2]; exact hst)
        rw [n3] at hend
        have r6 := n4 .exhausted pe
        refine ⟨pe, _, hend, ?_⟩
        cases pe with
        | none => exact ⟨_, hk, _, r6⟩
        | some c => exact hk g0 w0 _ _ ⟨_, r6⟩

/-! ### loops whose store is told by what holds of it -/
structure WeakJ (s s2 : St) : Prop where
  σ : s2.σ = s.σ
  L : s2.L = s.L
  T : ∀ p, p ∈ s2.T → WA (get s.T p.1) p.2

theorem get_wa {T T2 : List (Nat × AV)} {a : Act} (h : ∀ t, RA g tk w (get T t) (a.tmps.getD t undef)) (hw : ∀ p, p ∈ T2 → WA (get T p.1) p.2) : ∀ t, RA g tk w (get T2 t) (a.tmps.getD t undef) := by
  intro t
  induction T2 with
  | nil => exact .junk
  | cons q r ih =>
    obtain ⟨d, v⟩ := q
    simp only [get]
    by_cases hd : d = t
    · subst hd
      rw [if_pos rfl]
      exact (h d).wa (hw (d, v) (by simp))
    · rw [if_neg hd]
      exact ih (fun p hp => hw p (by simp [hp]))

theorem WeakJ.rel {s2 : St} (h : WeakJ s s2) (r : RelG g0 σ0 w0 N g s a w) : RelG g0 σ0 w0 N g s2 a w := by
  obtain ⟨T2, L2, σ2⟩ := s2
  obtain ⟨h1, h2, h3⟩ := h
  simp only at h1 h2 h3
  subst h1 h2
  exact ⟨r.1, r.2.1, r.2.2.1, r.2.2.2.1, get_wa r.2.2.2.2 h3⟩

attribute [go_sem] argsT Store.rec_
end
end Go.Aw

namespace Go.Aw
open Go
mutual
/-- No private box is pointed to that lies beyond this number. -/
def AV.lclo (nl : Nat) : AV → Bool
  | .lptr i _ => decide (i < nl)
  | .func _ cs => AV.lclos nl cs
  | .agg cs => AV.lclos nl cs
  | .tuple cs => AV.lclos nl cs
  | _ => true
def AV.lclos (nl : Nat) : List AV → Bool
  | [] => true
  | x :: r => AV.lclo nl x && AV.lclos nl r
end
theorem AV.lclos_iff {nl : Nat} : ∀ {l : List AV}, AV.lclos nl l = true ↔ ∀ x, x ∈ l → x.lclo nl = true
  | [] => by simp [AV.lclos]
  | x :: r => by simp [AV.lclos, AV.lclos_iff (l := r)]
mutual
theorem noL_lclo (nl : Nat) : ∀ x : AV, x.noL = true → x.lclo nl = true
  | .lptr .., h => by simp [AV.noL] at h
  | .func _ cs, h => by simp only [AV.noL] at h; simp only [AV.lclo]; exact noLs_lclos nl cs h
  | .agg cs, h => by simp only [AV.noL] at h; simp only [AV.lclo]; exact noLs_lclos nl cs h
  | .tuple cs, h => by simp only [AV.noL] at h; simp only [AV.lclo]; exact noLs_lclos nl cs h
  | .pv _, _ => rfl
  | .full _, _ => rfl
  | .acc .., _ => rfl
  | .ptr .., _ => rfl
  | .map _, _ => rfl
  | .scr .., _ => rfl
  | .junk, _ => rfl
theorem noLs_lclos (nl : Nat) : ∀ l : List AV, AV.noLs l = true → AV.lclos nl l = true
  | [], _ => rfl
  | x :: l, h => by
    simp only [AV.noLs, Bool.and_eq_true] at h
    simp only [AV.lclos, Bool.and_eq_true]
    exact ⟨noL_lclo nl x h.1, noLs_lclos nl l h.2⟩
end
section
variable {ρ : Option Nat} {P : Program} {g0 g : Ghost} {σ0 σ : Store} {w0 w : World} {N : Nat} {s : St} {a : Act} {tk : List Tok}
theorem ra_clo {nl : Nat} {x : AV} {v : Value} (h : RA g tk w x v) : x.lclo nl = true → x.clo g.io.length tk.length nl = true := by
  have key : ∀ (cs : List AV) (vs : List Value), vs.length = cs.length → (∀ (i : Nat) x v, cs[i]? = some x → vs[i]? = some v → x.lclo nl = true → x.clo g.io.length tk.length nl = true) → AV.lclos nl cs = true → AV.clos g.io.length tk.length nl cs = true := by
    intro cs vs hl ih hc
    refine AV.clos_iff.2 fun x hx => ?_
    obtain ⟨i, hi⟩ := List.getElem?_of_mem hx
    have hlt : i < vs.length := by rw [hl]; exact (List.getElem?_eq_some_iff.1 hi).1
    exact ih i x vs[i] hi (by simp) (AV.lclos_iff.1 hc x hx)
  induction h with
  | pv => exact fun _ => rfl
  | full => exact fun _ => rfl
  | acc _ ht _ _ _ => intro _; simp only [AV.clo, decide_eq_true_eq]; exact (List.getElem?_eq_some_iff.1 ht).1
  | ptr h => intro _; simp only [AV.clo, decide_eq_true_eq]; exact (List.getElem?_eq_some_iff.1 h).1
  | lptr h => intro hc; simpa [AV.clo, AV.lclo] using hc
  | map h => intro _; simp only [AV.clo, decide_eq_true_eq]; exact (List.getElem?_eq_some_iff.1 h).1
  | func hl _ ih => intro hc; simp only [AV.clo]; exact key _ _ hl (fun i x v hx hv => ih i x v hx hv) (by simpa [AV.lclo] using hc)
  | agg hl _ _ ih => intro hc; simp only [AV.clo]; exact key _ _ hl (fun i x v hx hv => ih i x v hx hv) (by simpa [AV.lclo] using hc)
  | tuple hl _ ih => intro hc; simp only [AV.clo]; exact key _ _ hl (fun i x v hx hv => ih i x v hx hv) (by simpa [AV.lclo] using hc)
  | scr h _ _ => intro _; simp only [AV.clo, Bool.or_eq_true, decide_eq_true_eq]; exact .inl (List.getElem?_eq_some_iff.1 h).1
  | scrnil => intro _; simp [AV.clo]
  | junk => exact fun _ => rfl
structure WeakJL (nl : Nat) (s s2 : St) : Prop where
  σ : s2.σ = s.σ
  L : s2.L = s.L.take nl
  T : ∀ p, p ∈ s2.T → WA (get s.T p.1) p.2 ∧ p.2.lclo nl = true
  cL : ∀ cs, cs ∈ s2.L → AV.lclos nl cs = true
theorem WeakJL.rel {nl : Nat} {s2 : St} (h : WeakJL nl s s2) (r : RelG g0 σ0 w0 N g s a w) : Rel g0 σ0 w0 N s2 a w := by
  obtain ⟨T2, L2, σ2⟩ := s2
  obtain ⟨h1, h2, h3, h4⟩ := h
  simp only at h1 h2 h3 h4
  subst h1 h2
  have hio := r.2.1.lio
  have hobj : ∀ ob, ob ∈ s.σ.objs.take s.σ.objs.length → ob.clo s.σ.objs.length s.σ.toks.length nl = true := by
    intro ob hob
    rw [List.take_length] at hob
    obtain ⟨o, ho⟩ := List.getElem?_of_mem hob
    have hlt : o < g.io.length := by rw [hio]; exact (List.getElem?_eq_some_iff.1 ho).1
    have hR := r.2.1.objs o ob g.io[o] ho (by simp)
    rw [← hio]
    cases ob with
    | map ks vs => rfl
    | row e sz cap xs => rfl
    | box cs =>
      obtain ⟨hn, vs, e, k1, k2, k3, k4⟩ := hR
      refine AV.clos_iff.2 fun x hx => ?_
      obtain ⟨i, hi⟩ := List.getElem?_of_mem hx
      have hl : i < vs.length := by rw [k2]; exact (List.getElem?_eq_some_iff.1 hi).1
      exact ra_clo (k4 i x vs[i] hi (by simp)) (noL_lclo nl x (hn x hx))
    | loop l st pe T N ps assign body =>
      obtain ⟨⟨_, hn, hnd⟩, fn, tmps, D, k1, k2, k3⟩ := hR
      refine AV.clos_iff.2 fun x hx => ?_
      obtain ⟨p, hp, rfl⟩ := List.mem_map.1 hx
      have := k3 p.1
      rw [get_nodup hnd hp] at this
      exact ra_clo this (noL_lclo nl _ (hn _ hx))
  have hL : ∀ cs, cs ∈ s.L.take nl → AV.clos s.σ.objs.length s.σ.toks.length nl cs = true := by
    intro cs hcs
    obtain ⟨i, hi⟩ := List.getElem?_of_mem hcs
    have hin : i < nl := by have := (List.getElem?_eq_some_iff.1 hi).1; rw [List.length_take] at this; omega
    rw [take_get hin] at hi
    have hlt : i < g.lam.length := by rw [r.2.1.llam]; exact (List.getElem?_eq_some_iff.1 hi).1
    obtain ⟨vs, e, k1, k2, k3, k4⟩ := r.2.1.priv i cs g.lam[i] hi (by simp)
    rw [← hio]
    refine AV.clos_iff.2 fun x hx => ?_
    obtain ⟨j, hj⟩ := List.getElem?_of_mem hx
    have hl : j < vs.length := by rw [k2]; exact (List.getElem?_eq_some_iff.1 hj).1
    exact ra_clo (k4 j x vs[j] hj (by simp)) (AV.lclos_iff.1 (h4 cs hcs) x hx)
  have hlo : σ0.objs.length ≤ s.σ.objs.length := by
    rw [← hio, ← r.1.io0]
    by_cases hz : g0.io.length = 0
    · omega
    · have := r.1.le.io (g0.io.length - 1) g0.io[g0.io.length - 1] (by simp)
      have := (List.getElem?_eq_some_iff.1 this).1
      omega
  have hlt : σ0.toks.length ≤ s.σ.toks.length := by
    by_cases hz : σ0.toks.length = 0
    · omega
    · obtain ⟨t', ht', _⟩ := r.1.le.tok (σ0.toks.length - 1) σ0.toks[σ0.toks.length - 1] (by simp)
      have := (List.getElem?_eq_some_iff.1 ht').1
      omega
  have hcut : s.σ.cut s.σ.objs.length s.σ.toks.length = s.σ := by simp [Store.cut]
  have i1 := r.2.1.cut (no := s.σ.objs.length) (nt := s.σ.toks.length) (nl := nl) hobj hL
  have e1 := r.1.cut (nl := nl) hlo hlt
  rw [hcut] at i1 e1
  refine ⟨_, e1, i1, r.2.2.1, r.2.2.2.1, fun t => ?_⟩
  have hra := get_wa r.2.2.2.2 (fun p hp => (h3 p hp).1) t
  have hcl : (get T2 t).lclo nl = true := by
    rcases get_mem (T := T2) (t := t) with e | ⟨p, hp, e⟩
    · rw [e]; rfl
    · rw [e]; exact (h3 p hp).2
  have := hra.cut (no := s.σ.objs.length) (nt := s.σ.toks.length) (nl := nl) (by rw [← hio]; exact ra_clo hra hcl)
  rw [List.take_length] at this
  exact this
def NextJL {ι : Type} (nl : Nat) (S : ι → St) (I : ι → Prop) (μ : ι → Nat) (i : ι) (s' : St) : Prop := ∃ j, I j ∧ μ j < μ i ∧ WeakJL nl s' (S j)
theorem awp_loop_famJL {c : Code} {Q : Exit → St → Prop} {ι : Type} (nl : Nat) (S : ι → St) (I : ι → Prop) (μ : ι → Nat) (i0 : ι) (hi0 : I i0) (h0 : WeakJL nl s (S i0))
    (round : ∀ i, I i → AWpR ρ P σ0 N c (Then (NextJL nl S I μ i) Q) (S i)) : AWpR ρ P σ0 N (.loop c) Q s := by
  rintro g0 w0 a w ⟨g, r⟩ b k cs hro hb hr
  have key : ∀ n i, μ i = n → I i → ∀ a w, Rel g0 σ0 w0 N (S i) a w →
      ∃ e a' w', lift g0 σ0 w0 N Q e a' w' ∧ ArrivesIn (Machine.fenced P (wF ρ)) P (lone (b.atR a (.code c :: .inLoop c :: k)) cs w) b k cs e a' w' := by
    intro n
    induction n using Nat.strongRecOn with
    | _ n ih =>
      intro i hn hI a w r
      obtain ⟨e, a₁, w₁, ⟨s₁, hq, r₁⟩, harr⟩ := round i hI g0 w0 a w r b (.inLoop c :: k) cs hro hb hr
      cases e with
      | normal =>
        obtain ⟨j, hj, hlt, hw⟩ := hq
        obtain ⟨g₁, r₁⟩ := r₁
        obtain ⟨e₂, a₂, w₂, hq₂, harr₂⟩ := ih (μ j) (hn ▸ hlt) j rfl hj a₁ w₁ (hw.rel r₁)
        exact ⟨e₂, a₂, w₂, hq₂, .of_steps (StepsIn.trans harr (.one (fenced_calm hb hr rfl) stepR_inLoop)) harr₂⟩
      | exit id => exact ⟨_, a₁, w₁, ⟨s₁, hq, r₁⟩, .pass (x := .inLoop c) rfl (fun _ _ => .inl (by simp)) harr⟩
      | goto l => exact ⟨_, a₁, w₁, ⟨s₁, hq, r₁⟩, .pass (x := .inLoop c) rfl (fun _ _ => .inl (by simp)) harr⟩
      | ret => exact ⟨_, a₁, w₁, ⟨s₁, hq, r₁⟩, .pass (x := .inLoop c) rfl (fun _ _ => .inl (by simp)) harr⟩
      | panic ch => exact ⟨_, a₁, w₁, ⟨s₁, hq, r₁⟩, .pass (x := .inLoop c) rfl (fun _ _ => .inl (by simp)) harr⟩
      | outgrown => exact ⟨_, a₁, w₁, ⟨s₁, hq, r₁⟩, .pass (x := .inLoop c) rfl (fun _ _ => .inl (by simp)) harr⟩
  obtain ⟨e, a', w', hq, harr⟩ := key _ i0 rfl hi0 a w (h0.rel r)
  exact ⟨e, a', w', hq, .of_steps (.one (fenced_calm hb hr rfl) stepR_loop) harr⟩
theorem awp_loop_headJL {c : Code} {Q : Exit → St → Prop} {ι : Type} (nl : Nat) (keep : List Nat) (m : ι → List (Nat × AV)) (σf : ι → Store) (I : ι → Prop) (μ : ι → Nat) (i0 : ι) (hi0 : I i0) (h0 : WeakJL nl s (headK s keep (m i0) s.L (σf i0)))
    (round : ∀ i, I i → AWpR ρ P σ0 N c (Then (NextJL nl (fun i => headK s keep (m i) s.L (σf i)) I μ i) Q) (headK s keep (m i) s.L (σf i))) : AWpR ρ P σ0 N (.loop c) Q s :=
  awp_loop_famJL nl (fun i => headK s keep (m i) s.L (σf i)) I μ i0 hi0 h0 round
attribute [go_sem] AV.lclo AV.lclos
end
end Go.Aw

namespace Go.Aw
open Go
/-- The path of the first expression without a form. -/
def swr (d : D) : Option (List Int) := scata (fun d rs => if (synKind d == 0) = true then some [] else rs.findSome? fun q => q.2.map (q.1.p ++ ·)) d
theorem swr_eq (d : D) : swr d = if (synKind d == 0) = true then some [] else (subs d).findSome? fun q => (swr q.2).map (q.1.p ++ ·) := by
  show scata (β := Option (List Int)) _ d = _
  rw [scata_eq]
  simp only [List.findSome?_map]; rfl
theorem synOk_swr (d : D) : synOk d = (swr d).isNone := by
  induction d using D.indS with
  | h d ih =>
    rw [synOk_eq, swr_eq]
    by_cases h0 : synKind d = 0
    · rw [h0]; rfl
    · rw [if_neg (by simpa using h0)]
      have hne : (synKind d != 0) = true := by simpa using h0
      rw [hne, Bool.true_and, Bool.eq_iff_iff]
      rw [List.all_eq_true, Option.isNone_iff_eq_none, List.findSome?_eq_none_iff]
      refine forall_congr' fun q => forall_congr' fun hq => ?_
      rw [ih q hq]
      cases swr q.2 <;> simp
def NoWr (d : D) (i : Nat) : Prop := ∀ (j : Nat) (q : Sub × D), j < i → (subs d)[j]? = some q → swr q.2 = none
theorem NoWr.zero {d : D} : NoWr d 0 := fun _ _ h => by omega
theorem NoWr.succ {d : D} {i : Nat} {q : Sub × D} (h : NoWr d i) (hq : (subs d)[i]? = some q) (hn : swr q.2 = none) : NoWr d (i + 1) := by
  intro j q2 hj hq2
  by_cases e : j = i
  · subst e; rw [hq, Option.some.injEq] at hq2; subst hq2; exact hn
  · exact h j q2 (by omega) hq2
theorem NoWr.all {d : D} (h : NoWr d (subs d).length) (hk : synKind d ≠ 0) : swr d = none := by
  rw [swr_eq, if_neg (by simpa using hk), List.findSome?_eq_none_iff]
  intro q hq
  obtain ⟨i, hi, rfl⟩ := List.getElem_of_mem hq
  rw [h i _ hi (by rw [List.getElem?_eq_getElem hi])]; rfl
theorem NoWr.found {d : D} {i : Nat} {q : Sub × D} {p : List Int} (h : NoWr d i) (hk : synKind d ≠ 0) (hq : (subs d)[i]? = some q) (hp : swr q.2 = some p) : swr d = some (q.1.p ++ p) := by
  rw [swr_eq, if_neg (by simpa using hk), List.findSome?_eq_some_iff]
  obtain ⟨hi, he⟩ := List.getElem?_eq_some_iff.1 hq
  refine ⟨(subs d).take i, q, (subs d).drop (i + 1), ?_, by rw [hp]; rfl, ?_⟩
  · rw [← he, List.getElem_cons_drop, List.take_append_drop]
  · intro q2 h2
    obtain ⟨j, hj, rfl⟩ := List.getElem_of_mem h2
    rw [List.length_take] at hj
    rw [List.getElem_take, h j _ (by omega) (List.getElem?_eq_getElem (by omega))]; rfl
theorem subs_plen {d : D} {q : Sub × D} (h : q ∈ subs d) : 1 ≤ q.1.p.length ∧ q.1.p.length ≤ 3 := by
  have hm : ∀ (f : Nat → D → Sub × D) (l : List D), (∀ i x, 1 ≤ (f i x).1.p.length ∧ (f i x).1.p.length ≤ 3) → q ∈ mapI f l → 1 ≤ q.1.p.length ∧ q.1.p.length ≤ 3 := by
    intro f l hf hq
    obtain ⟨i, x, hx, rfl⟩ := mapI_mem hq
    exact hf i x
  by_cases h4 : synKind d = 4 ∨ synKind d = 8
  · rw [subs_of_rest h4] at h; exact hm _ _ (fun _ _ => ⟨by simp [sub0, sub1, subR], by simp [sub0, sub1, subR]⟩) h
  by_cases h5 : synKind d = 5 ∨ synKind d = 9
  · rw [subs_of_fn h5] at h; rw [List.mem_singleton.1 h]; exact ⟨by simp [subL], by simp [subL]⟩
  by_cases h6 : synKind d = 6
  · rw [subs_of_let h6] at h
    simp only [List.mem_cons, List.not_mem_nil, or_false] at h
    rcases h with rfl | rfl <;> exact ⟨by simp [subL], by simp [subL]⟩
  by_cases h7 : synKind d = 7
  · rw [subs_of_rec h7, List.mem_append, List.mem_singleton] at h
    rcases h with h | rfl
    · exact hm _ _ (fun _ _ => ⟨by simp [sub0, sub1, subR], by simp [sub0, sub1, subR]⟩) h
    · exact ⟨by simp [subL], by simp [subL]⟩
  by_cases h10 : synKind d = 10
  · rw [subs_of_app h10] at h; exact hm _ _ (fun _ _ => ⟨by simp [sub0, sub1, subR], by simp [sub0, sub1, subR]⟩) h
  · exfalso
    have hs : subs d = [] := subs_of_none (by cases shape d <;> omega)
    rw [hs] at h; simp at h
theorem swr_len : ∀ (d : D) (p : List Int), swr d = some p → p.length ≤ 3 * d.size := by
  intro d
  induction d using D.indS with
  | h d ih =>
    intro p hp
    rw [swr_eq] at hp
    split at hp
    · injection hp with hp; subst hp; simp
    · obtain ⟨q, hq, he⟩ := List.exists_of_findSome?_eq_some hp
      cases hs : swr q.2 with
      | none => rw [hs] at he; cases he
      | some p2 =>
        rw [hs] at he
        simp only [Option.map_some, Option.some.injEq] at he
        subst he
        have h1 := ih q hq p2 hs
        have h2 := (subs_plen hq).2
        have h3 := subs_lt hq
        rw [List.length_append]; omega
/-- A path as a value; the empty path may be nil. -/
def wPV (p : List Int) : PV := if p = [] then .nils else .slice (p.map (.int .i64))
def wpath (d : D) : PV := match swr d with
  | some p => wPV p
  | none => .nils
theorem wr_some {d : D} {p : List Int} (h : swr d = some p) : wpath d = wPV p ∧ synOk d = false := by
  refine ⟨by unfold wpath; rw [h], by rw [synOk_swr, h]; rfl⟩
theorem wr_none {d : D} (h : swr d = none) : wpath d = .nils ∧ synOk d = true := by
  refine ⟨by unfold wpath; rw [h], by rw [synOk_swr, h]; rfl⟩
theorem swr_is {d : D} (h : synOk d = false) : ∃ p, swr d = some p := by
  rw [synOk_swr] at h
  cases hs : swr d with
  | some p => exact ⟨p, rfl⟩
  | none => rw [hs] at h; cases h
theorem swr_no {d : D} (h : synOk d = true) : swr d = none := by rw [synOk_swr] at h; exact Option.isNone_iff_eq_none.1 h
theorem wPV_cells (p : List Int) : (wPV p).cells = [wPV p] := by unfold wPV; split <;> rfl
theorem wPV_nrm (p : List Int) : PV.nrm (wPV p) = wPV p := by unfold wPV; split <;> rfl
theorem wpath_cells (d : D) : (wpath d).cells = [wpath d] := by unfold wpath; split; exact wPV_cells _; rfl
end Go.Aw

namespace Go.Aw
open Go
section
variable {ρ : Option Nat} {P : Program} {ty : TyT} {σ0 : Store} {N : Nat} {s : St} {o : Oper} {os : List Oper} {ops : Array Oper} {next : St → Prop} {K : St → Prop}
theorem flat_replicate {p : PV} (hp : p.cells = [p]) (n : Nat) : flat (List.replicate n p) = List.replicate n p := by
  induction n with
  | zero => rfl
  | succ n ih =>
    rw [List.replicate_succ, show p :: List.replicate n p = [p] ++ List.replicate n p from rfl, flat_append, ih]
    simp [flat, hp]
theorem rp_int {B : Nat} {S : Nat → Nat → Prop} {w : World} {k : IntKind} {x : Int} {v : Value} (h : RP B S w (.int k x) v) : v = .int k x := by cases h; rfl
theorem rp_nilp {B : Nat} {S : Nat → Nat → Prop} {w : World} {v : Value} (h : RP B S w .nilp v) : v = .pointer none := by cases h; rfl
theorem rp_ptr {B : Nat} {S : Nat → Nat → Prop} {w : World} {v : Value} {ps : List PV} (h : RP B S w (.ptr ps) v) : ∃ ad, v = .pointer (some ad) := by cases h; exact ⟨_, rfl⟩
theorem eqGuard_ptr (op : BinOp) (t : TypeId) (p q : Operand) (a b : Option Addr) {P : Program} {w : World} : (eqGuard op t p q (.pointer a) (.pointer b)).run P w = .ok () w := by
  cases op <;> rfl
theorem aop_makeSlice (hty : TyOk P ty) {t e : TypeId} {ti te : TyI} {l c : Operand} {n : Nat} {p : PV} (ho : o.op = .makeSlice t l c) (hti : ty t = some ti) (hk : ti.kind = .slice e) (hte : ty e = some te) (hz : te.zero = [p]) (hp : p.cells = [p])
    (hl : ev s l = .pv (.int .i64 (n : Int))) (hc : ev s c = .pv (.int .i64 (n : Int))) (hb : te.bytes ≤ 1000) (hbig : n ≤ 1000000000) (hd : dstOk N o.dst = true) (hn : next (s.put o.dst (.full (List.replicate n p)))) : AOp P σ0 N o next s := by
  rintro g0 w0 a w nx Q ⟨g, r⟩ hnx
  obtain ⟨i, z, h7, h8, h9, h10, h11, h12, h13⟩ := (hty _ _ hte).info
  have hl' : a.eval l = .int .i64 (n : Int) := by have := r.ev l; rw [hl] at this; exact rp_int this.pv_inv
  have hc' : a.eval c = .int .i64 (n : Int) := by have := r.ev c; rw [hc] at this; exact rp_int this.pv_inv
  have hsz : te.size = 1 := by
    have := (rcells_const (g := g) (tk := s.σ.toks) (w := w) h11).len
    rw [hz] at this
    rw [← h12, ← Array.length_toList, this]; rfl
  have hbytes : (i.bytes : Int) * (n : Int) ≤ 281474976710656 := by
    rw [h9]
    have h1 : te.bytes * n ≤ 1000 * 1000000000 := Nat.mul_le_mul hb hbig
    have h2 : ((te.bytes * n : Nat) : Int) ≤ 1000 * 1000000000 := by omega
    rw [Int.natCast_mul] at h2
    omega
  have hrun := run_make (P := P) w t e i z ((hty _ _ hti).slice hk) h7 h10 .i64 .i64 n n (by omega) (Int.le_refl _) hbytes (by omega)
  simp only [Int.toNat_natCast, h8, hsz, Nat.mul_one] at hrun
  have hzc : RCells g s.σ.toks w (te.zero.map .pv) z.cells.toList := rcells_const h11
  obtain ⟨v0, hv0⟩ : ∃ v, z.cells = #[v] := by
    have : z.cells.size = 1 := by rw [h12, hsz]
    exact Array.size_eq_one_iff.1 this
  have hmk : madeCells z.cells n = (List.replicate n v0).toArray := by
    apply Array.ext'
    unfold madeCells
    rw [hv0]
    apply List.ext_getElem?
    intro j
    by_cases hj : j < n
    · simp [hj, Nat.mod_one]
    · simp [hj]
  rw [hmk] at hrun
  rw [hz, hv0] at hzc
  have hra0 : RA g s.σ.toks w (.pv p) v0 := hzc.all 0 _ _ rfl rfl
  have hone0 : v0.oneCell' = true := hzc.one _ (by simp)
  obtain ⟨r1, f⟩ := r.alloc (.cells (List.replicate n v0).toArray e)
  have r2 := r1.addS f fun _ => True
  unfold opW
  have : (execOp a.eval o).run P w = .ok (.value (.slice (some ⟨w.heap.size, 0, none⟩) n n)) (w.alloc (.cells (List.replicate n v0).toArray e)) := by
    simp only [execOp, ho, Sem.run_bind, hl', hc', hrun, Result.andThen_ok, Sem.run_pure]
  rw [this]
  refine hnx _ _ _ hn ⟨_, r2.put (.full ?_) hd⟩
  have hfl := flat_replicate hp n
  have hln : (List.replicate n p).length = n := by simp
  have hv : Value.slice (some ⟨w.heap.size, 0, none⟩) n n = Value.slice (some ⟨w.heap.size, 0, none⟩) (List.replicate n p).length n := by rw [hln]
  rw [hv]
  refine RP.row (us := List.replicate n v0) (rest := []) (sz := 1) (e := e) (fun q hq => by rw [List.eq_of_mem_replicate hq, hp]; rfl) (fun j x v hx hv => ?_) (by rw [hfl]; simp) (fun u hu => by rw [List.eq_of_mem_replicate hu]; exact hone0) (by rw [heap_alloc_at]; simp) (fun o _ => .inr ⟨rfl, trivial⟩) (Nat.le_of_eq hln)
  rw [hfl] at hx
  simp only [List.getElem?_replicate] at hx hv
  split at hx
  · rename_i hj
    rw [if_pos hj] at hv
    cases hx; cases hv
    have hra := hra0.alloc r.2.1 (.cells (List.replicate n v0).toArray e)
    have := (r1.2.1.addS f fun _ => True).2
    exact (hra.mono this (fun _ _ h => h)).pv_inv
  · cases hx
theorem equal_ptr_nil {t e : TypeId} {w : World} (hu : P.underlying t = some (.pointer e)) (a : Option Addr) : (Op.equal t (.pointer a) (.pointer none)).run P w = .ok a.isNone w := by
  have hd : Op.maxDepth = 9999 + 1 := rfl
  rw [Op.equal, hd, Op.equalIn, Sem.run_bind, run_underlying hu, Result.andThen_ok]
  cases a <;> rfl
/-- A pointer against nil. -/
theorem aop_ptrNe (hty : TyOk P ty) {t e : TypeId} {ti : TyI} {x y : Operand} {yt : TypeId} (b : Bool) (ho : o.op = .binOp .neq t x y yt) (hti : ty t = some ti) (hk : ti.kind = .ptr e)
    (hx : (ev s x = .pv .nilp ∧ b = false) ∨ ∃ ps, ev s x = .pv (.ptr ps) ∧ b = true) (hy : ev s y = .pv .nilp) (hd : dstOk N o.dst = true) (hn : next (s.put o.dst (.pv (.bool b)))) : AOp P σ0 N o next s := by
  rintro g0 w0 a w nx Q ⟨g, r⟩ hnx
  have hu : P.underlying t = some (.pointer e) := by
    obtain ⟨d, h1, h2⟩ := (hty _ _ hti).und
    rw [hk] at h2
    cases d <;> simp at h2
    subst h2; exact h1
  have hx' : ∃ ad, a.eval x = .pointer ad ∧ (!ad.isNone) = b := by
    have h := r.ev x
    rcases hx with ⟨hx, rfl⟩ | ⟨ps, hx, rfl⟩ <;> rw [hx] at h
    · exact ⟨none, rp_nilp h.pv_inv, rfl⟩
    · obtain ⟨ad, h1⟩ := rp_ptr h.pv_inv; exact ⟨some ad, h1, rfl⟩
  obtain ⟨ad, hx1, hx2⟩ := hx'
  have hy' : a.eval y = .pointer none := by have h := r.ev y; rw [hy] at h; exact rp_nilp h.pv_inv
  have hrun : (execOp a.eval o).run P w = .ok (.value (.bool b)) w := by
    simp only [execOp, ho, hx1, hy', Sem.run_bind, eqGuard_ptr, Result.andThen_ok, binOp, equal_ptr_nil hu, Sem.run_pure, hx2]
  unfold opW
  rw [hrun]
  exact hnx _ _ _ hn ⟨g, r.put (.pv .bool) hd⟩
theorem al_makeSlice (hty : TyOk P ty) {t e : TypeId} {ti te : TyI} {l c : Operand} {n : Nat} {p : PV} (hg : o.guard = none) (ho : o.op = .makeSlice t l c) (hti : ty t = some ti) (hk : ti.kind = .slice e) (hte : ty e = some te) (hz : te.zero = [p]) (hp : p.cells = [p])
    (hl : ev s l = .pv (.int .i64 (n : Int))) (hc : ev s c = .pv (.int .i64 (n : Int))) (hb : te.bytes ≤ 1000) (hbig : n ≤ 1000000000) (hd : dstOk N o.dst = true) (k : AOpsL P σ0 N ops os K (s.put o.dst (.full (List.replicate n p)))) : AOpsL P σ0 N ops (o :: os) K s :=
  al_cons hg (aop_makeSlice hty ho hti hk hte hz hp hl hc hb hbig hd k)
theorem al_ptrNe (hty : TyOk P ty) {t e : TypeId} {ti : TyI} {x y : Operand} {yt : TypeId} (b : Bool) (hg : o.guard = none) (ho : o.op = .binOp .neq t x y yt) (hti : ty t = some ti) (hk : ti.kind = .ptr e)
    (hx : (ev s x = .pv .nilp ∧ b = false) ∨ ∃ ps, ev s x = .pv (.ptr ps) ∧ b = true) (hy : ev s y = .pv .nilp) (hd : dstOk N o.dst = true) (k : AOpsL P σ0 N ops os K (s.put o.dst (.pv (.bool b)))) : AOpsL P σ0 N ops (o :: os) K s :=
  al_cons hg (aop_ptrNe hty b ho hti hk hx hy hd k)
end
end Go.Aw

namespace Go.Aw
open Go
section
variable {ρ : Option Nat} {P : Program} {σ0 : Store} {N : Nat} {s : St} {Q : Exit → St → Prop}
/-- The box at ob, and what was laid behind it, are no longer told; the pointer to it reads as its cells. -/
theorem awp_freezeP {c : Code} (d : Nat) {s2 : St} {ob : Nat} {ps : List PV} (hx : get s.T d = .ptr ob 0) (hob : s.σ.objs[ob]? = some (.box (ps.map .pv))) (hw : Weak σ0 ob s.σ.toks.length s.L.length s s2)
    (k : AWpR ρ P σ0 N c Q { s2 with T := (d, .pv (.ptr ps)) :: s2.T }) : AWpR ρ P σ0 N c Q s := by
  rintro g0 w0 a w ⟨g, r⟩
  have r2 := hw.rel r
  have hpr := r.2.2.2.2 d
  rw [hx] at hpr
  generalize hpv : a.tmps.getD d undef = pv at hpr
  cases hpr with
  | ptr hio =>
    rename_i b
    obtain ⟨hnl, vs, e, h6, h7, h8, h9⟩ := r.2.1.objs ob _ b hob hio
    have hlow := r.2.1.low b (mem_io hio)
    have ap := r.2.1.apart
    have hfr : Fresh (g.cut ob s.σ.toks.length s.L.length) w b := by
      refine ⟨hlow.1, hlow.2.1, hlow.2.2, fun o hS => (r.2.1.cells b o hS).2.2.1 (List.mem_of_getElem? hio), ?_⟩
      intro hm
      simp only [Ghost.owned, Ghost.cut, List.mem_append] at hm
      rcases hm with (hm | hm) | hm
      · obtain ⟨q, hq, hqe⟩ := List.getElem_of_mem hm
        have hq2 : q < ob := by rw [List.length_take] at hq; omega
        have : g.io[q]? = some b := by
          rw [List.getElem_take] at hqe
          rw [← hqe]; simp
        have := nodup_get ap.1.1 this hio
        omega
      · exact ap.2.1 b (List.mem_of_getElem? hio) (List.mem_of_mem_take hm)
      · obtain ⟨tb, htb, hte⟩ := List.mem_filterMap.1 hm
        cases tb with
        | none => cases hte
        | some tb =>
          simp only [Option.map_some, Option.some.injEq] at hte
          obtain ⟨kk, hkk, hke⟩ := List.getElem_of_mem (List.mem_of_mem_take htb)
          have := (ap.2.2 kk tb (by rw [← hke]; simp)).1
          rw [hte] at this
          exact this (List.mem_of_getElem? hio)
    have r3 := r2.addS hfr (fun o => o < ps.length)
    refine k g0 w0 a w ⟨_, r3.1, r3.2.1, r3.2.2.1, r3.2.2.2.1, fun t => ?_⟩
    simp only [get]
    split
    · subst_vars
      rw [hpv]
      have hle : Keeps g.B g.S (fun c o => g.S c o ∨ (c = b ∧ o < ps.length)) w w := ⟨fun _ _ h => .inl h, fun _ _ _ => rfl, fun _ _ => rfl⟩
      have hpl : vs.length = ps.length := by simpa using h7
      refine .pv (RP.ptr (vs := vs) hpl (fun i v hv => ?_) (fun i x v hx hv => ?_))
      · refine ⟨.inr (.inr ⟨rfl, by have := (List.getElem?_eq_some_iff.1 hv).1; omega⟩), ?_, h8 v (List.mem_of_getElem? hv)⟩
        rw [cell_of_heap h6, List.getElem?_toArray, Nat.zero_add]
        exact hv
      · exact (h9 i (.pv x) v (by rw [List.getElem?_map, hx]; rfl) hv).pv_inv.mono hle
    · exact r3.2.2.2.2 t
/-- The same: these slots are kept. -/
theorem awp_freezePK {c : Code} (d : Nat) (keep : List Nat) (σ' : Store) {ob : Nat} {ps : List PV} (hx : get s.T d = .ptr ob 0) (hob : s.σ.objs[ob]? = some (.box (ps.map .pv))) (hσ : σ' = s.σ.cut ob s.σ.toks.length) (h0 : σ0.objs.length ≤ ob) (ht : σ0.toks.length ≤ s.σ.toks.length)
    (hT : ∀ p, p ∈ (keep.map fun t => (t, get s.T t)) → WV ob s.σ.toks.length s.L.length (get s.T p.1) p.2) (co : ∀ ob', ob' ∈ σ'.objs → ob' ∈ σ0.objs ∨ ob'.clo ob s.σ.toks.length s.L.length = true) (cL : ∀ cs, cs ∈ s.L → AV.clos ob s.σ.toks.length s.L.length cs = true)
    (k : AWpR ρ P σ0 N c Q ⟨(d, .pv (.ptr ps)) :: keep.map fun t => (t, get s.T t), s.L, σ'⟩) : AWpR ρ P σ0 N c Q s :=
  awp_freezeP d (s2 := ⟨keep.map fun t => (t, get s.T t), s.L, σ'⟩) hx hob ⟨hσ, by simp, h0, ht, hT, co, cL⟩ k
end
end Go.Aw

namespace Go.Aw
open Go
/-- A scope: the names, the nearest first. -/
def encSc : List ByteArray → PV
  | [] => .nilp
  | n :: r => .ptr [.str n, .bool false, encSc r]
theorem encSc_at {l : List ByteArray} {k : Nat} {x : ByteArray} (h : l[k]? = some x) : encSc (l.drop k) = .ptr [.str x, .bool false, encSc (l.drop (k + 1))] := by
  obtain ⟨hk, rfl⟩ := List.getElem?_eq_some_iff.1 h
  rw [List.drop_eq_getElem_cons hk]; rfl
theorem encSc_ne (l : List ByteArray) (k : Nat) : (AV.pv (encSc (l.drop k)) = .pv .nilp ∧ decide (k < l.length) = false) ∨ ∃ ps, AV.pv (encSc (l.drop k)) = .pv (.ptr ps) ∧ decide (k < l.length) = true := by
  by_cases h : k < l.length
  · refine .inr ⟨_, congrArg AV.pv (encSc_at (x := l[k]) (by simp [h])), by simpa using h⟩
  · refine .inl ⟨?_, by simpa using h⟩
    rw [List.drop_of_length_le (by omega)]; rfl
@[go_sem] theorem encSc_cells (l : List ByteArray) : (AV.pv (encSc l)).cells = some [.pv (encSc l)] := by cases l <;> rfl
@[go_sem] theorem encSc_nrm (l : List ByteArray) : PV.nrm (encSc l) = encSc l := by cases l <;> rfl
theorem memB_any (l : List ByteArray) (x : ByteArray) : memB l x = l.any fun y => decide (y = x) := by
  unfold memB
  congr 1
  funext y
  rw [decide_eq_decide]; exact eq_comm
theorem encSc_with {ns l : List ByteArray} {k : Nat} {x : ByteArray} (h : ns[k]? = some x) : PV.ptr [.str x, .bool false, encSc ((ns.take k).reverse ++ l)] = encSc ((ns.take (k + 1)).reverse ++ l) := by
  rw [take_next h, List.reverse_append]; rfl
theorem rep_get {n k : Nat} {p : PV} (h : k < n) : (List.replicate n p)[k]? = some p := by simp [h]
/-- The names free in the first parts, added to others. -/
def frd (d : D) (l S : List ByteArray) (k : Nat) : List ByteArray := ((subs d).take k).foldl (fun S q => sfree q.2 (q.1.ns.map (·.1) ++ l) S) S
theorem frd_next {d : D} {l S : List ByteArray} {k : Nat} {q : Sub × D} (h : (subs d)[k]? = some q) : frd d l S (k + 1) = sfree q.2 (q.1.ns.map (·.1) ++ l) (frd d l S k) := by
  unfold frd
  rw [take_next h, List.foldl_append]; rfl
theorem frd_all {d : D} {l S : List ByteArray} (h : synKind d ≠ 2) : frd d l S (subs d).length = sfree d l S := by
  unfold frd
  rw [List.take_length, sfree_eq, if_neg (by simpa using h)]
theorem sfree_name {d : D} {l S : List ByteArray} (h : synKind d = 2) : sfree d l S = if memB l d.text = true then S else addS S d.text := by
  rw [sfree_eq, if_pos (by simpa using h)]
theorem ownS_len (d : D) : (ownS d).length ≤ d.size := by
  have h1 := D.kids_length_lt (d1 d.kids)
  by_cases h : 1 < d.kids.length
  · have h2 : (d1 d.kids).size < d.size := D.size_kid_lt (getD_mem (n := 1) h)
    unfold ownS
    split
    · simp; omega
    · split
      · simp; omega
      · split
        · simp; omega
        · split
          · simp; omega
          · simp
  · have h2 : d1 d.kids = dnone := by
      show d.kids.getD 1 dnone = dnone
      rw [List.getD_eq_getElem?_getD, List.getElem?_eq_none (by omega)]; rfl
    have := D.size_pos d
    unfold ownS
    rw [h2]
    split
    · simp [dnone, D.kids]
    · split
      · simp [dnone, D.kids]
      · split
        · simp; omega
        · split
          · simp [dnone, D.kids]
          · simp
theorem subs_ns {d : D} (h : synKind d = 4 ∨ synKind d = 8 ∨ synKind d = 10) {q : Sub × D} (hq : q ∈ subs d) : q.1.ns = [] := by
  rcases h with h | h | h
  · rw [subs_of_rest (.inl h)] at hq; obtain ⟨i, x, hx, rfl⟩ := mapI_mem hq; rfl
  · rw [subs_of_rest (.inr h)] at hq; obtain ⟨i, x, hx, rfl⟩ := mapI_mem hq; rfl
  · rw [subs_of_app h] at hq; obtain ⟨i, x, hx, rfl⟩ := mapI_mem hq; rfl
theorem subs_ns2 {d : D} (h : synKind d ≠ 5 ∧ synKind d ≠ 9 ∧ synKind d ≠ 6 ∧ synKind d ≠ 7) {q : Sub × D} (hq : q ∈ subs d) : q.1.ns = [] := by
  by_cases h4 : synKind d = 4 ∨ synKind d = 8 ∨ synKind d = 10
  · exact subs_ns h4 hq
  · have hs : subs d = [] := subs_of_none (by cases shape d <;> omega)
    rw [hs] at hq; simp at hq
theorem subs_rec_at {d : D} (h : synKind d = 7) {i : Nat} {x : D} (hx : (d1 d.kids).kids[i]? = some x) : (subs d)[i]? = some (subR d i x) := by
  rw [subs_of_rec h, List.getElem?_append_left (by rw [mapI_length]; exact (List.getElem?_eq_some_iff.1 hx).1), mapI_get, hx]; rfl
theorem subs_rec_last {d : D} (h : synKind d = 7) : (subs d)[(d1 d.kids).kids.length]? = some (subL d 2 (d2 d.kids)) ∧ (subs d).length = (d1 d.kids).kids.length + 1 := by
  rw [subs_of_rec h]
  refine ⟨?_, by rw [List.length_append, mapI_length]; rfl⟩
  rw [List.getElem?_append_right (by rw [mapI_length]; omega), mapI_length]; simp
@[go_sem] theorem wPV_cell (p : List Int) : (AV.pv (wPV p)).cells = some [.pv (wPV p)] := by unfold wPV; split <;> rfl
@[go_sem] theorem wa_lptr {i a j b : Nat} : WA (.lptr i a) (.lptr j b) ↔ i = j ∧ a = b := ⟨fun h => by cases h with | same => exact ⟨rfl, rfl⟩, fun ⟨h1, h2⟩ => by subst h1 h2; exact .same⟩
theorem setS_cut2 {σ : Store} {B : List AObj} {om : Nat} {S : List ByteArray} (h : om < σ.objs.length) : (setS ⟨σ.gl, σ.objs ++ B, σ.toks⟩ om S).cut σ.objs.length σ.toks.length = setS σ om S := by
  unfold setS Store.cut
  simp [List.set_append_left _ _ h]
theorem setAt_of {P : Program} {f : FuncId} {args : List AV} {σ : Store} {om : Nat} {S : List ByteArray} (h : ACalls P f args σ fun r σ' => r = .tuple [] ∧ σ'.cut σ.objs.length σ.toks.length = setS σ om S) : ACalls P f args σ fun r σ' => r = .tuple [] ∧ σ' = setS σ om S := by
  refine h.less fun r σ' ⟨h1, h2⟩ => ⟨_, _, .tuple [], by subst h1; simp [go_sem], Nat.le_refl _, Nat.le_refl _, fun ob hob => ?_, rfl, h2⟩
  have : σ'.objs.take σ.objs.length = (setS σ om S).objs := congrArg Store.objs h2
  rw [this] at hob
  exact setS_mem hob
theorem mapAt_of {P : Program} {f : FuncId} {args : List AV} {σ : Store} {ks vs : List PV} (h : ACalls P f args σ fun r σ' => r = .map σ.objs.length ∧ σ'.cut (σ.objs.length + 1) σ.toks.length = { σ with objs := σ.objs ++ [.map ks vs] }) : ACalls P f args σ fun r σ' => r = .map σ.objs.length ∧ σ' = { σ with objs := σ.objs ++ [.map ks vs] } := by
  refine h.less fun r σ' ⟨h1, h2⟩ => ⟨σ.objs.length + 1, σ.toks.length, .map σ.objs.length, by subst h1; simp [go_sem], by omega, Nat.le_refl _, fun ob hob => ?_, rfl, h2⟩
  have : σ'.objs.take (σ.objs.length + 1) = σ.objs ++ [.map ks vs] := congrArg Store.objs h2
  rw [this, List.mem_append, List.mem_singleton] at hob
  rcases hob with hob | rfl
  · exact .inl hob
  · exact .inr rfl
theorem setS_ne {σ : Store} {om i : Nat} {S : List ByteArray} (h : om ≠ i) : (setS σ om S).objs[i]? = σ.objs[i]? := by
  unfold setS; exact List.getElem?_set_ne h
theorem get_app5 {l : List AObj} {a b c d e : AObj} : (l ++ [a, b, c, d, e])[l.length + 4]? = some e := by simp
/-- A round's end: the record is as it was. -/
theorem setS_rec {X : Store} {om r : Nat} {S : List ByteArray} {a b : AObj} (h : om ≠ r) (ha : X.objs[r]? = some a) : { setS { X with objs := X.objs.set r b } om S with objs := ((setS { X with objs := X.objs.set r b } om S).objs).set r a } = setS X om S := by
  unfold setS
  have e : ((X.objs.set r b).set om (.map (tK S) (tV S))).set r a = X.objs.set om (.map (tK S) (tV S)) := by
   rw [List.set_comm _ _ (Ne.symm h), List.set_set, List.set_comm _ _ h]
   congr 1
   exact set_self ha
  show (⟨X.gl, ((X.objs.set r b).set om (.map (tK S) (tV S))).set r a, X.toks⟩ : Store) = ⟨X.gl, X.objs.set om (.map (tK S) (tV S)), X.toks⟩
  rw [e]
end Go.Aw

namespace Go.Aw
open Go Go.ChangeShapes Go.WideShapes Go.ChangeAt Go.WideMaps Go.WideElems Go.RowKit
theorem exists_list {α : Type} {Q : Nat → α → Prop} : ∀ n : Nat, (∀ i, i < n → ∃ d, Q i d) → ∃ l : List α, l.length = n ∧ ∀ i x, l[i]? = some x → Q i x
  | 0, _ => ⟨[], rfl, fun i x h => by simp at h⟩
  | n + 1, h => by
    obtain ⟨l, h1, h2⟩ := exists_list n (fun i hi => h i (by omega))
    obtain ⟨d, hd⟩ := h n (by omega)
    refine ⟨l ++ [d], by simp [h1], fun i x hx => ?_⟩
    rcases getElem?_snoc hx with hx | ⟨rfl, rfl⟩
    · exact h2 i x hx
    · rw [h1]; exact hd

theorem rp_slice_of {B : Nat} {S : Nat → Nat → Prop} {w : World} {a : Addr} {len cap sz : Nat} {xs : List PV} (hlen : xs.length = len) (hcap : len ≤ cap) (hb : a.block < B) (h0 : 0 < sz) (hsz : ∀ x, x ∈ xs → x.cells.length = sz)
    (h : ∀ (q : Nat) x, xs[q]? = some x → ∃ cs : List Value, cs.length = sz ∧ (∀ r, r < sz → w.cell? ((a.add (q * sz)).add r) = cs[r]?) ∧ (∀ v, v ∈ cs → v.oneCell' = true) ∧ ∀ (r : Nat) y v, x.cells[r]? = some y → cs[r]? = some v → RP B S w y v) :
    RP B S w (.slice xs) (.slice (some a) len cap) := by
  by_cases hl : xs = []
  · subst hl; simp at hlen; subst hlen; exact .empty
  have hspot : a.spot = none := by
    obtain ⟨x, r, hx⟩ := kids_cons hl
    obtain ⟨cs, h1, h2, _⟩ := h 0 x (by rw [hx]; rfl)
    have h3 := h2 0 h0
    rw [Nat.zero_mul, Addr.add, if_pos rfl, Addr.add, if_pos rfl] at h3
    have h4 : cs[0]? = some cs[0] := by simp
    rw [h4] at h3
    unfold World.cell? at h3
    cases hs : a.spot with
    | none => rfl
    | some s =>
      rw [hs] at h3
      split at h3 <;> simp at h3
  have hadd : ∀ n, a.add n = ⟨a.block, a.off + n, none⟩ := by
    intro n
    unfold Addr.add
    split
    · subst_vars; cases a; simp only at hspot; subst hspot; rfl
    · rfl
  have hadd2 : ∀ n m, (a.add n).add m = ⟨a.block, a.off + (n + m), none⟩ := by
    intro n m
    rw [hadd]
    unfold Addr.add
    split
    · subst_vars; rfl
    · show (⟨a.block, a.off + n + m, none⟩ : Addr) = _
      rw [Nat.add_assoc]
  have ha : a = ⟨a.block, a.off, none⟩ := by cases a; simp only at hspot; subst hspot; rfl
  have hall : ∀ i, i < len * sz → ∃ (q r : Nat) (x : PV) (cs : List Value), i = q * sz + r ∧ r < sz ∧ xs[q]? = some x ∧ cs.length = sz ∧ w.cell? ⟨a.block, a.off + i, none⟩ = cs[r]? ∧ (∀ v, v ∈ cs → v.oneCell' = true) ∧ ∀ (r : Nat) y v, x.cells[r]? = some y → cs[r]? = some v → RP B S w y v := by
    intro i hi
    have hq : i / sz < len := Nat.div_lt_of_lt_mul (by rw [Nat.mul_comm]; exact hi)
    have hr : i % sz < sz := Nat.mod_lt _ h0
    have hx : xs[i / sz]? = some xs[i / sz] := by simp [hlen, hq]
    obtain ⟨cs, h1, h2, h3, h4⟩ := h _ _ hx
    have h5 := h2 (i % sz) hr
    have he : i / sz * sz + i % sz = i := by rw [Nat.mul_comm]; exact Nat.div_add_mod i sz
    rw [hadd2, he] at h5
    exact ⟨i / sz, i % sz, _, cs, he.symm, hr, hx, h1, h5, h3, h4⟩
  rw [ha, ← hlen]
  refine RP.slice (sz := sz) (vs := (List.range (len * sz)).map fun j => (w.cell? ⟨a.block, a.off + j, none⟩).getD (.int .i64 0)) hsz (by simp [hlen]) (by omega) (fun i v hv => ?_) (fun i y v hy hv => ?_)
  · have hi : i < len * sz := by have := (List.getElem?_eq_some_iff.1 hv).1; simpa using this
    obtain ⟨q, r, x, cs, h1, h2, h3, h4, h5, h6, h7⟩ := hall i hi
    have h8 : cs[r]? = some cs[r] := by simp [h4, h2]
    rw [h8] at h5
    simp only [List.getElem?_map, List.getElem?_range hi, Option.map_some, Option.some.injEq, h5, Option.getD_some] at hv
    subst hv
    exact ⟨.inl hb, h5, h6 _ (List.getElem_mem _)⟩
  · have hi : i < len * sz := by have := (List.getElem?_eq_some_iff.1 hv).1; simpa using this
    obtain ⟨q, r, x, cs, h1, h2, h3, h4, h5, h6, h7⟩ := hall i hi
    have h8 : cs[r]? = some cs[r] := by simp [h4, h2]
    rw [h8] at h5
    simp only [List.getElem?_map, List.getElem?_range hi, Option.map_some, Option.some.injEq, h5, Option.getD_some] at hv
    subst hv
    rw [h1, flat_get hsz h3 h2] at hy
    exact h7 r y _ hy h8

/-! ### data -/
structure DatumTy (P : Program) (tD tK ti tn ts : TypeId) : Prop where
  und : ∃ f0 f1 f2 f3 : Field, P.underlying tD = some (.struct #[f0, f1, f2, f3]) ∧ f0.type = ti ∧ f0.offset = 0 ∧ f1.type = tn ∧ f1.offset = 1 ∧ f2.type = ts ∧ f2.offset = 2 ∧ f3.type = tK ∧ f3.offset = 3
  i : P.underlying ti = some (.int .i64)
  n : P.underlying tn = some (.int .i64)
  s : P.underlying ts = some .string
  k : P.underlying tK = some (.slice tD)
  cD : P.cellsOf tD = 4
  ci : P.cellsOf ti = 1
  cn : P.cellsOf tn = 1
  cs : P.cellsOf ts = 1
  ck : P.cellsOf tK = 1

theorem one_of {α : Type} {l : List α} {i : Nat} {a : α} (h : (l.drop i).take 1 = [a]) : l[i]? = some a := by
  have h1 : ((l.drop i).take 1)[0]? = some a := by rw [h]; rfl
  rw [List.getElem?_take, List.getElem?_drop] at h1
  simpa using h1

section
variable {H : Type} {enc' : TypeId × Value → H} {P : Program} {w : World} {base : Nat} {spare : Nat → Bool} {held : Bool} {tD tK ti tn ts : TypeId} {S : Nat → Nat → Prop}
theorem open_datum (T : DatumTy P tD tK ti tn ts) : ∀ (fuel : Nat) (cs : List Value) (x : DataW H × List MemPlace), DataW.trod enc' P w base spare held fuel tD cs = some x →
    ∃ (d : D) (v : Value), cs = [.int .i64 d.kind, .int .i64 d.num, .string d.text, v] ∧ v.oneCell' = true ∧ RP w.heap.size S w (.slice (d.kids.map enc)) v := by
  intro fuel
  induction fuel using Nat.strongRecOn with
  | _ fuel ih =>
    intro cs x h
    obtain ⟨f0, f1, f2, f3, hu, t0, o0, t1, o1, t2, o2, t3, o3⟩ := T.und
    obtain ⟨xs, n, rfl, rfl, hl, hlen, hf⟩ := DataW.trod_struct hu h
    have hxl : xs.length = 4 := by simpa using hlen
    have g0 := hf 0 f0 rfl
    have g1 := hf 1 f1 rfl
    have g2 := hf 2 f2 rfl
    have g3 := hf 3 f3 rfl
    rw [t0, o0, T.ci] at g0
    rw [t1, o1, T.cn] at g1
    rw [t2, o2, T.cs] at g2
    rw [t3, o3, T.ck] at g3
    have s0 : xs[0]? = some xs[0] := by simp
    have s1 : xs[1]? = some xs[1] := by simp
    have s2 : xs[2]? = some xs[2] := by simp
    have s3 : xs[3]? = some xs[3] := by simp
    rw [s0] at g0
    rw [s1] at g1
    rw [s2] at g2
    rw [s3] at g3
    obtain ⟨k, e0, _, _⟩ := DataW.trod_int T.i g0
    obtain ⟨m, e1, _, _⟩ := DataW.trod_int T.n g1
    obtain ⟨t, e2, _, _⟩ := DataW.trod_string T.s g2
    have a0 := one_of e0
    have a1 := one_of e1
    have a2 := one_of e2
    rw [T.cD] at hl
    have hcs : ∃ v, cs = [.int .i64 k, .int .i64 m, .string t, v] := by
      match cs, hl, a0, a1, a2 with
      | [c0, c1, c2, c3], _, a0, a1, a2 =>
        simp only [List.getElem?_cons_zero, List.getElem?_cons_succ, Option.some.injEq] at a0 a1 a2
        exact ⟨c3, by rw [a0, a1, a2]⟩
    obtain ⟨v, hcs⟩ := hcs
    rw [hcs] at g3
    have g3' : DataW.trod enc' P w base spare held n tK [v] = some xs[3] := g3
    rcases DataW.trod_slice T.k g3' with ⟨hv, _⟩ | ⟨a, len, cap, elems, rest, m', rfl, hv, _, hb, hlc, hcm, hel, hes, _⟩
    · cases hv
      exact ⟨.mk k m t [], _, hcs, rfl, by simp only [D.kids, List.map_nil]; exact .empty⟩
    · cases hv
      rw [T.cD] at hes
      have hex : ∀ i, i < len → ∃ d : D, ∃ v' : Value, (∀ r, r < 4 → w.cell? ((a.add (i * 4)).add r) = ([.int .i64 d.kind, .int .i64 d.num, .string d.text, v'] : List Value)[r]?) ∧ v'.oneCell' = true ∧ RP w.heap.size S w (.slice (d.kids.map enc)) v' := by
        intro i hi
        have h1 := hes i hi
        have h2 : elems[i]? = some elems[i] := by simp [hel, hi]
        rw [h2] at h1
        obtain ⟨cs', hc, ht⟩ := Option.bind_eq_some_iff.1 h1
        obtain ⟨_, _, hc2⟩ := World.cells?_some hc
        obtain ⟨d, v', he, hone, hrp⟩ := ih m' (by omega) cs' _ ht
        subst he
        exact ⟨d, v', hc2, hone, hrp⟩
      obtain ⟨l, hll, hlq⟩ := exists_list len hex
      refine ⟨.mk k m t l, _, hcs, rfl, ?_⟩
      show RP w.heap.size S w (.slice (l.map enc)) (.slice (some a) len cap)
      by_cases hlen0 : len = 0
      · subst hlen0
        have : l = [] := List.eq_nil_of_length_eq_zero hll
        subst this
        exact .empty
      have hblk : a.block < w.heap.size := by
        obtain ⟨d, v', h1, _⟩ := hex 0 (by omega)
        have h2 := h1 0 (by omega)
        rw [Nat.zero_mul, Addr.add, if_pos rfl, Addr.add, if_pos rfl] at h2
        unfold World.cell? at h2
        by_cases hlt : a.block < w.heap.size
        · exact hlt
        · rw [Array.getElem?_eq_none (by omega)] at h2; simp at h2
      refine rp_slice_of (sz := 4) (by simp [hll]) hlc hblk (by omega) (fun x hx => ?_) (fun q x hx => ?_)
      · obtain ⟨d, _, rfl⟩ := List.mem_map.1 hx
        rw [enc_cells]; rfl
      · rw [List.getElem?_map] at hx
        obtain ⟨d, hd, rfl⟩ := Option.map_eq_some_iff.1 hx
        obtain ⟨v', h1, h2, h3⟩ := hlq q d hd
        refine ⟨[.int .i64 d.kind, .int .i64 d.num, .string d.text, v'], rfl, h1, fun u hu => ?_, fun r y u hy hu => ?_⟩
        · simp only [List.mem_cons, List.not_mem_nil, or_false] at hu
          rcases hu with rfl | rfl | rfl | rfl <;> first | rfl | exact h2
        · rw [enc_cells] at hy
          match r with
          | 0 => simp at hy hu; subst hy hu; exact .int
          | 1 => simp at hy hu; subst hy hu; exact .int
          | 2 => simp at hy hu; subst hy hu; exact .str
          | 3 => simp at hy hu; subst hy hu; exact h3
          | r + 4 => simp at hy
end
end Go.Aw

namespace Go.Aw
open Go Go.ChangeShapes Go.WideShapes Go.ChangeAt Go.WideMaps Go.WideElems Go.RowKit
theorem insert_perm {H : Type} (x : Lit × DataW H) : ∀ l : List (Lit × DataW H), (DataW.insert x l).Perm (x :: l)
  | [] => .refl _
  | y :: r => by
    unfold DataW.insert
    split
    · exact .refl _
    · exact ((insert_perm x r).cons y).trans (.swap _ _ _)
theorem foldr_insert_perm {H : Type} : ∀ l : List (Lit × DataW H), (l.foldr DataW.insert []).Perm l
  | [] => .refl _
  | x :: l => (insert_perm x _).trans ((foldr_insert_perm l).cons x)

def strPV (s : List UInt8) : PV := .str ⟨s.toArray⟩
def litStr : Lit → List UInt8
  | .string s => s
  | _ => []

section
variable {H : Type} {enc' : TypeId × Value → H} {P : Program} {w : World} {base : Nat} {sp : Nat → Bool} {held : Bool} {S : Nat → Nat → Prop} {t k e : TypeId} {fuel : Nat} {cs : List Value} {ps : List MemPlace}
theorem open_set (ht : P.underlying t = some (.map k e)) (hks : P.underlying k = some .string) (he : P.underlying e = some .bool) {names : List (List UInt8)}
    (h : DataW.trod enc' P w base sp held fuel t cs = some (.map (names.map fun s => (.string s, .lit (.bool true))), ps)) :
    ∃ (b : Nat) (l : List (List UInt8)), cs = [.map (some b)] ∧ l.Perm names ∧ RP w.heap.size S w (.map (l.map strPV) (l.map fun _ => .bool true)) (.map (some b)) := by
  rcases WideElems.open_map ht h with ⟨_, hx⟩ | ⟨b, es, clock, n, rfl, rfl, hb, _, F, hx⟩
  · cases hx
  simp only [Prod.mk.injEq, DataW.map.injEq] at hx
  have hperm := foldr_insert_perm (es.toList.map (rg P k (elemAt enc' P w base sp held n e)))
  rw [← hx.1] at hperm
  refine ⟨b, (es.toList.map (rg P k (elemAt enc' P w base sp held n e))).map fun y => litStr y.1, rfl, ?_, ?_⟩
  · have h2 := (hperm.map fun y : Lit × DataW H => litStr y.1).symm
    have e1 : ((names.map fun s => ((Lit.string s, DataW.lit (.bool true)) : Lit × DataW H)).map fun y : Lit × DataW H => litStr y.1) = names := by
      rw [List.map_map]
      exact List.map_id _
    rw [e1] at h2
    exact h2
  have hent : ∀ x, x ∈ es.toList → ∃ s : ByteArray, x.key = .string s ∧ x.val = .bool true ∧ litStr (rg P k (elemAt enc' P w base sp held n e) x).1 = s.data.toList := by
    intro x hxm
    obtain ⟨y, hy⟩ := F.reads x hxm
    have hrg : rg P k (elemAt enc' P w base sp held n e) x = y := rg_of hy
    have hmem : y ∈ names.map fun s => ((Lit.string s, DataW.lit (.bool true)) : Lit × DataW H) := by
      have : y ∈ es.toList.map (rg P k (elemAt enc' P w base sp held n e)) := List.mem_map.2 ⟨x, hxm, hrg⟩
      exact hperm.mem_iff.2 this
    obtain ⟨s, _, hs⟩ := List.mem_map.1 hmem
    subst hs
    have hkey := rd_key hy
    obtain ⟨z, hz, hz2⟩ := rd_val hy
    obtain ⟨bb, hv, hz3⟩ := elemAt_bool he hz
    rw [keyOf_string hks] at hkey
    have hk2 : ∃ s' : ByteArray, x.key = .string s' ∧ s'.data.toList = s := by
      unfold mapKey at hkey
      rw [hks] at hkey
      split at hkey <;> simp_all
    obtain ⟨s', h1, h2⟩ := hk2
    refine ⟨s', h1, ?_, by rw [hrg, h2]; rfl⟩
    rw [hz3] at hz2
    simp only [DataW.lit.injEq, Lit.bool.injEq] at hz2
    rw [hv, ← hz2]
  have hblt : b < w.heap.size := by
    by_cases hlt : b < w.heap.size
    · exact hlt
    · rw [Array.getElem?_eq_none (by omega)] at hb; cases hb
  refine RP.map (es := es.toList) (clock := clock) hblt (by rw [hb]) (by simp) (by simp) (fun i x en hx hen => ?_) (fun i x en hx hen => ?_)
  · simp only [List.map_map, List.getElem?_map, hen, Option.map_some, Option.some.injEq] at hx
    obtain ⟨s, h1, _, h3⟩ := hent en (List.mem_of_getElem? hen)
    subst hx
    simp only [Function.comp, strPV, h3, h1]
    have : (⟨s.data.toList.toArray⟩ : ByteArray) = s := by simp
    rw [this]; exact .str
  · simp only [List.map_map, List.getElem?_map, hen, Option.map_some, Option.some.injEq, Function.comp] at hx
    obtain ⟨s, _, h2, _⟩ := hent en (List.mem_of_getElem? hen)
    subst hx
    rw [h2]; exact .bool

/-- A table of names and numbers. -/
theorem open_table {f0 f1 : Field} (ht : P.underlying t = some (.slice e)) (he : P.underlying e = some (.struct #[f0, f1])) (hf0 : P.underlying f0.type = some .string) (hf1 : P.underlying f1.type = some (.int .i64)) (o0 : f0.offset = 0) (o1 : f1.offset = 1)
    (c0 : P.cellsOf f0.type = 1) (c1 : P.cellsOf f1.type = 1) (ce : P.cellsOf e = 2) {L : List (List UInt8 × Int)} {r : List (DataW H)}
    (h : DataW.trod enc' P w base sp held fuel t cs = some (.slice (L.map fun p => .agg [.lit (.string p.1), .lit (.int .i64 p.2)]) r, ps)) :
    ∃ v, cs = [v] ∧ v.oneCell' = true ∧ RP w.heap.size S w (.slice (L.map fun p => .agg [strPV p.1, .int .i64 p.2])) v := by
  rcases DataW.trod_slice ht h with ⟨_, hx⟩ | ⟨a, len, cap, elems, rest, m, rfl, rfl, hx, hb, hlc, hcm, hel, hes, _⟩
  · cases hx
  simp only [Prod.mk.injEq, DataW.slice.injEq] at hx
  have hLl : L.length = len := by
    have := congrArg List.length hx.1.1
    simpa [hel] using this
  refine ⟨_, rfl, rfl, ?_⟩
  by_cases hL : L = []
  · subst hL; simp at hLl; subst hLl; exact .empty
  rw [ce] at hes
  have key : ∀ (i : Nat) (p : List UInt8 × Int), L[i]? = some p → ∃ s : ByteArray, s.data.toList = p.1 ∧ ∀ j, j < 2 → w.cell? ((a.add (i * 2)).add j) = ([.string s, .int .i64 p.2] : List Value)[j]? := by
    intro i p hp
    have hi : i < len := by rw [← hLl]; exact (List.getElem?_eq_some_iff.1 hp).1
    have h1 := hes i hi
    have h2 : elems[i]? = some elems[i] := by simp [hel, hi]
    rw [h2] at h1
    obtain ⟨cs', hc, hstr⟩ := Option.bind_eq_some_iff.1 h1
    obtain ⟨_, hcl, hc2⟩ := World.cells?_some hc
    obtain ⟨xs, n, rfl, hxe, hl, hlen, hf⟩ := DataW.trod_struct he hstr
    have hxl : xs.length = 2 := by simpa using hlen
    have g0 := hf 0 f0 rfl
    have g1 := hf 1 f1 rfl
    rw [o0, c0] at g0
    rw [o1, c1] at g1
    have s0 : xs[0]? = some xs[0] := by simp
    have s1 : xs[1]? = some xs[1] := by simp
    rw [s0] at g0
    rw [s1] at g1
    obtain ⟨st, e0, x0, _⟩ := DataW.trod_string hf0 g0
    obtain ⟨q, e1, x1, _⟩ := DataW.trod_int hf1 g1
    have a0 := one_of e0
    have a1 := one_of e1
    have hval : elems[i].1 = .agg [.lit (.string p.1), .lit (.int .i64 p.2)] := by
      have h3 : (elems.map (·.1))[i]? = some elems[i].1 := by rw [List.getElem?_map, h2]; rfl
      rw [← hx.1.1, List.getElem?_map, hp] at h3
      simpa using h3.symm
    have hxs : xs = [xs[0], xs[1]] := by
      refine List.ext_getElem (by simp [hxl]) (fun j h1 h2 => ?_)
      match j with
      | 0 => rfl
      | 1 => rfl
      | j + 2 => simp only [List.length_cons, List.length_nil] at h2; omega
    rw [hxe, hxs] at hval
    simp only [List.map_cons, List.map_nil, DataW.agg.injEq, List.cons.injEq, x0, x1, DataW.lit.injEq, Lit.string.injEq, Lit.int.injEq, and_true, true_and] at hval
    have hcs : cs' = [.string st, .int .i64 q] := by
      match cs', hcl, a0, a1 with
      | [u, v], _, a0, a1 =>
        simp only [List.getElem?_cons_zero, List.getElem?_cons_succ, Option.some.injEq] at a0 a1
        rw [a0, a1]
    rw [hcs, hval.2] at hc2
    exact ⟨st, hval.1, hc2⟩
  have hblk : a.block < w.heap.size := by
    obtain ⟨p, r, hp⟩ := kids_cons hL
    obtain ⟨s, _, h1⟩ := key 0 p (by rw [hp]; rfl)
    have h2 := h1 0 (by omega)
    rw [Nat.zero_mul, Addr.add, if_pos rfl, Addr.add, if_pos rfl] at h2
    unfold World.cell? at h2
    by_cases hlt : a.block < w.heap.size
    · exact hlt
    · rw [Array.getElem?_eq_none (by omega)] at h2; simp at h2
  refine rp_slice_of (sz := 2) (by simp [hLl]) hlc hblk (by omega) (fun x hx => ?_) (fun q x hx => ?_)
  · obtain ⟨p, _, rfl⟩ := List.mem_map.1 hx
    rfl
  · rw [List.getElem?_map] at hx
    obtain ⟨p, hp, rfl⟩ := Option.map_eq_some_iff.1 hx
    obtain ⟨s, h1, h2⟩ := key q p hp
    refine ⟨_, rfl, h2, fun u hu => ?_, fun r y u hy hu => ?_⟩
    · simp only [List.mem_cons, List.not_mem_nil, or_false] at hu
      rcases hu with rfl | rfl <;> rfl
    · match r with
      | 0 =>
        simp [PV.cells] at hy hu; subst hy hu
        unfold strPV
        have : (⟨p.1.toArray⟩ : ByteArray) = s := by rw [← h1]
        rw [this]; exact .str
      | 1 => simp [PV.cells] at hy hu; subst hy hu; exact .int
      | r + 2 => simp [PV.cells] at hy
end
/-! ### the beginning and the end of a call -/
def g0 (W : World) : Ghost := { B := W.heap.size, K := fun _ => False, S := fun _ _ => False, io := [], lam := [], tb := [] }
theorem inv0 {W : World} {gl : List (Nat × PV)} (h : ∀ n p, (n, p) ∈ gl → RP W.heap.size (fun _ _ => False) W p (.pointer (some ⟨n, 0, none⟩))) : Inv (g0 W) ⟨gl, [], []⟩ [] W := by
  refine ⟨rfl, rfl, rfl, h, List.nodup_nil, fun b hb => (by simp [g0, Ghost.owned] at hb), fun b hb => (by cases hb), Nat.le_refl _, fun b o hS => (by cases hS), fun o ob b ho => (by simp at ho), fun i cs b hL => (by simp at hL), fun k t tb ht => (by simp at ht)⟩
theorem below_of {W W' : World} {σ σ' : Store} {g' : Ghost} (h : Ext (g0 W) σ W g' σ' W') : Below W.heap.size W W' :=
  ⟨h.os, h.tape, h.output, h.size, fun k hk => h.le.keeps.blk k hk⟩

section
variable {H : Type} {enc' : TypeId × Value → H} {P : Program}
theorem post_of_below {f : Func} {s : ChangeSpec} {apart fresh handsOn again : Bool} {W W' : World} {args : Array Value} {v : Value} {ds gs : List (DataW H)} {before pa pv : List MemPlace}
    (hW : DataW.Whole enc' P f.params.toList s.vars apart W args.toList ds gs before)
    (hres : ∀ (b : Nat) (sp : Nat → Bool) (hd : Bool), DataW.TrodAll enc' P W' b sp hd f.resultTypes.toList (v.resultList f.resultTypes.size) (s.fn H (ds ++ gs)).results [])
    (hargs : ∀ sp : Nat → Bool, (∀ p ∈ before, sp p.block = true) → DataW.TrodAll enc' P W' 0 sp true f.params.toList args.toList (s.fn H (ds ++ gs)).args pa)
    (hvars : ∀ sp : Nat → Bool, (∀ p ∈ before, sp p.block = true) → DataW.TrodVars enc' P W' sp s.vars (s.fn H (ds ++ gs)).vars pv)
    (hps : before = pa ++ pv) (hb : Below W.heap.size W W')
    (hok : ∀ (j : Nat) (t : TypeId) (r : Value), f.resultTypes[j]? = some t → (v.resultList f.resultTypes.size)[j]? = some r → Value.okWide P W' .any 0 t r) :
    s.post enc' P f apart fresh handsOn again W args v W' := by
  have hold : ∀ p ∈ before, (fun b => decide (b < W.heap.size)) p.block = true := fun p hp => by simpa using hW.lt p hp
  refine ⟨ds, gs, before, [], pa, pv, hW, hres _ _ _, hargs _ hold, hvars _ hold, hb.frame _, fun _ => ?_⟩
  have hlt := hW.lt
  obtain ⟨_, _, _, _, _, hz, hn⟩ := hW
  refine ⟨hok, _, _, ([] ++ pa) ++ pv, ⟨[] ++ pa, pv, trodAll_append (hargs _ (fun _ _ => rfl)) (hres _ _ _), hvars _ (fun _ _ => rfl), rfl, ?_, ?_⟩, ?_⟩
  · intro b off hp
    have hp' : MemPlace.cell b off ∈ before := by rw [hps]; simpa using hp
    have hl := hlt _ hp'
    rw [hb.frozen (p := ⟨b, off, none⟩) hl]
    exact hz b off hp'
  · intro ha
    have := hn ha
    rw [hps] at this
    simpa using this
  · intro p hp _
    rw [hps]
    simpa using hp
end
end Go.Aw

namespace Go.Aw
open Go Go.RowKit Go.Sort Go.Proofs Go.Maps Go.WideElems
def bstr (l : List UInt8) : ByteArray := ⟨l.toArray⟩
/-- A call that gives a new row of strings and leaves the world but for new blocks. -/
theorem acalls_strs {P : Program} {f : FuncId} {args : List AV} {σ : Store} {Q : List (List UInt8) → Prop}
    (h : ∀ g w (cargs : List Value), Inv g σ [] w → cargs.length = args.length → (∀ (i : Nat) x v, args[i]? = some x → cargs[i]? = some v → RA g σ.toks w x v) →
      Calls P f cargs.toArray w fun e w' => ∃ (v : Value) (ss : List (List UInt8)) (t : TypeId), e = .returned v ∧ Q ss ∧ w'.ownsRow w.heap.size t 1 v ss.length (ss.map encStr) ∧ Below w.heap.size w w') :
    ACalls P f args σ fun r σ' => ∃ ss : List (List UInt8), r = .pv (.slice (ss.map fun l => .str (bstr l))) ∧ Q ss ∧ σ' = σ := by
  intro g w cargs hinv hlen hargs
  refine (h g w cargs hinv hlen hargs).mono ?_
  rintro e w' ⟨v, ss, t, rfl, hQ, ⟨hxl, hrow⟩, hb⟩
  obtain ⟨h1, h2⟩ := hinv.step hb.size (fun b hlt => hb.block b hlt)
  have hext : Ext g σ w g σ w' := ⟨h2, rfl, fun _ h => h, fun b hK => hb.block b (hinv.kept b hK).1, hb.size, hb.os, hb.tape, hb.output, hinv.lio, hinv.clo⟩
  rcases hrow with ⟨rfl, hn⟩ | ⟨b, cap, cur, rfl, hbase, hbk, hnc, hcm, hsz, htk⟩
  · have hss : ss = [] := List.eq_nil_of_length_eq_zero hn
    subst hss
    exact ⟨_, _, σ, g, rfl, ⟨[], rfl, hQ, rfl⟩, h1, hext, .pv .empty⟩
  · have hblt : b < w'.heap.size := by
      by_cases hlt : b < w'.heap.size
      · exact hlt
      · rw [Array.getElem?_eq_none (by omega)] at hbk; cases hbk
    have hfr : Fresh g w' b := by
      refine ⟨by have := hinv.base; omega, hblt, fun hK => by have := (hinv.kept b hK).1; omega, fun o hS => by have := (hinv.cells b o hS).2.1; omega, fun hm => by have := (hinv.low b hm).2.1; omega⟩
    obtain ⟨h3, h4⟩ := h1.addS hfr (fun o => o < ss.length)
    have hle := h2.trans h4
    refine ⟨_, _, σ, _, rfl, ⟨ss, rfl, hQ, rfl⟩, h3, ⟨hle, rfl, fun _ h => h, fun b hK => hb.block b (hinv.kept b hK).1, hb.size, hb.os, hb.tape, hb.output, hinv.lio, hinv.clo⟩, .pv ?_⟩
    have hrp : RP g.B (fun c o => g.S c o ∨ (c = b ∧ o < ss.length)) w' (.slice (ss.map fun l => .str (bstr l))) (.slice (some ⟨b, 0, none⟩) (ss.map fun l => PV.str (bstr l)).length cap) := by
      refine .slice (sz := 1) (vs := ss.map encStr) (fun x hx => by obtain ⟨l, _, rfl⟩ := List.mem_map.1 hx; rfl) (by simp) (by simpa using hnc) (fun i u hu => ?_) (fun i x u hx hu => ?_)
      · have hi : i < ss.length := by have := (List.getElem?_eq_some_iff.1 hu).1; simpa using this
        refine ⟨.inr (.inr ⟨rfl, by omega⟩), ?_, ?_⟩
        · rw [cell_of_heap hbk, Nat.zero_add]
          have h5 : (cur.toList.take (ss.length * 1))[i]? = some u := by rw [htk]; exact hu
          rw [List.getElem?_take, if_pos (by omega)] at h5
          simpa using h5
        · rw [List.getElem?_map] at hu
          obtain ⟨l, _, rfl⟩ := Option.map_eq_some_iff.1 hu
          rfl
      · have hfl : flat (ss.map fun l => PV.str (bstr l)) = ss.map fun l => PV.str (bstr l) := by
          generalize ss = L
          induction L with
          | nil => rfl
          | cons a L ih => simp only [List.map_cons]; show PV.cells _ ++ flat _ = _; rw [ih]; rfl
        rw [hfl, List.getElem?_map] at hx
        rw [List.getElem?_map] at hu
        obtain ⟨l, hl, rfl⟩ := Option.map_eq_some_iff.1 hx
        rw [hl] at hu
        simp only [Option.map_some, Option.some.injEq] at hu
        subst hu
        exact .str
    simpa using hrp
/-- A set in memory, as the kit reads a map. -/
theorem owns_set {P : Program} {g : Ghost} {w : World} {b : Nat} {S : List ByteArray} {kt : TypeId} (hk : P.underlying kt = some .string) (h : RMap g w b (tK S) (tV S)) (hm : S.length ≤ maxLen) (hs : ∀ s, s ∈ S → s.size ≤ maxLen) :
    ∃ D0 : DataW Unit, w.ownsMap P kt (fun _ => some (.nil, [])) b S.length D0 ∧ (strKeys D0).Perm (S.map fun s => s.data.toList) ∧ Maps.size D0 = S.length := by
  obtain ⟨es, clock, h0, h1, h2, h3, h4, h5⟩ := h
  have hkl : (tK S).length = S.length := by simp [tK]
  have hes : ∀ (i : Nat) e, es[i]? = some e → ∃ s, S[i]? = some s ∧ e.key = .string s := by
    intro i e he
    have hi : i < S.length := by have := (List.getElem?_eq_some_iff.1 he).1; omega
    have hsi : S[i]? = some S[i] := by simp
    have hti : (tK S)[i]? = some (.str S[i]) := by unfold tK; rw [List.getElem?_map, hsi]; rfl
    exact ⟨_, hsi, (h3 i _ e hti he).str_inv⟩
  have hrd : ∀ (i : Nat) e, es[i]? = some e → ∃ s, S[i]? = some s ∧ WideElems.rd P kt (fun _ => some ((.nil : DataW Unit), [])) e = some (.string s.data.toList, .nil) := by
    intro i e he
    obtain ⟨s, hsi, hke⟩ := hes i e he
    refine ⟨s, hsi, ?_⟩
    unfold WideElems.rd
    rw [hke, WideMaps.keyOf_string_mk hk (hs s (List.mem_of_getElem? hsi))]
    rfl
  have hrg : es.map (WideElems.rg P kt fun _ => some ((.nil : DataW Unit), [])) = S.map fun s => (Lit.string s.data.toList, (.nil : DataW Unit)) := by
    apply List.ext_getElem?
    intro i
    rw [List.getElem?_map, List.getElem?_map]
    cases he : es[i]? with
    | none =>
      have : S[i]? = none := by rw [List.getElem?_eq_none_iff] at he ⊢; omega
      rw [this]; rfl
    | some e =>
      obtain ⟨s, hsi, hr⟩ := hrd i e he
      rw [hsi]
      simp only [Option.map_some]
      rw [WideElems.rg_of hr]
  refine ⟨_, ⟨es.toArray, clock, h0, ⟨by simp; omega, h5, fun x hx => ?_⟩, by simp; omega, rfl⟩, ?_, ?_⟩
  · obtain ⟨i, hi⟩ := List.getElem?_of_mem (show x ∈ es by simpa using hx)
    obtain ⟨s, _, hr⟩ := hrd i x hi
    exact ⟨_, hr⟩
  · have hp := (foldr_insert_perm (es.toArray.toList.map (WideElems.rg P kt fun _ => some ((.nil : DataW Unit), [])))).map fun p => strOf p.1
    rw [show es.toArray.toList = es by simp, hrg] at hp
    show List.Perm (List.map _ _) _
    rw [show es.toArray.toList = es by simp, hrg]
    refine hp.trans ?_
    rw [List.map_map]
    refine List.Perm.of_eq (List.map_congr_left fun s _ => ?_)
    rfl
  · have hp := (foldr_insert_perm (es.toArray.toList.map (WideElems.rg P kt fun _ => some ((.nil : DataW Unit), []))))
    rw [show es.toArray.toList = es by simp, hrg] at hp
    show List.length _ = _
    rw [show es.toArray.toList = es by simp, hrg, hp.length_eq]
    simp
theorem perm_sorted_eq {α : Type} {r : α → α → Prop} (ha : ∀ a b, r a b → r b a → a = b) : ∀ {l1 l2 : List α}, l1.Perm l2 → l1.Pairwise r → l2.Pairwise r → l1 = l2
  | [], l2, h, _, _ => (List.Perm.nil_eq h)
  | a :: l1, [], h, _, _ => (List.Perm.eq_nil h)
  | a :: l1, b :: l2, h, h1, h2 => by
    have hab : a = b := by
      rcases List.mem_cons.1 (h.mem_iff.1 (List.mem_cons_self (a := a) (l := l1))) with e | e
      · exact e
      · rcases List.mem_cons.1 (h.mem_iff.2 (List.mem_cons_self (a := b) (l := l2))) with e2 | e2
        · exact e2.symm
        · exact ha a b ((List.pairwise_cons.1 h1).1 b e2) ((List.pairwise_cons.1 h2).1 a e)
    subst hab
    rw [perm_sorted_eq ha (List.Perm.cons_inv h) (List.pairwise_cons.1 h1).2 (List.pairwise_cons.1 h2).2]
/-- Strings, rising. -/
def sortB (S : List ByteArray) : List ByteArray := ((S.map fun s => s.data.toList).mergeSort fun x y => decide (x ≤ y)).map bstr
theorem le_total8 (a b : List UInt8) : (decide (a ≤ b) || decide (b ≤ a)) = true := by
  have := List.le_total a b
  rcases this with h | h <;> simp [h]
theorem le_trans8 (a b c : List UInt8) : decide (a ≤ b) = true → decide (b ≤ c) = true → decide (a ≤ c) = true := by
  simp only [decide_eq_true_eq]
  exact fun h1 h2 => List.le_trans h1 h2
theorem sort_perm {ss tt : List (List UInt8)} (h : ss.Perm tt) : (ss.mergeSort fun x y => decide (x ≤ y)) = tt.mergeSort fun x y => decide (x ≤ y) := by
  refine perm_sorted_eq (r := fun x y => (decide (x ≤ y)) = true) (fun a b h1 h2 => List.le_antisymm (by simpa using h1) (by simpa using h2)) ?_ (List.pairwise_mergeSort (le := fun x y => decide (x ≤ y)) le_trans8 le_total8 ss) (List.pairwise_mergeSort (le := fun x y => decide (x ≤ y)) le_trans8 le_total8 tt)
  exact (List.mergeSort_perm ss _).trans (h.trans (List.mergeSort_perm tt _).symm)
theorem sortB_mem (S : List ByteArray) (s : ByteArray) : s ∈ sortB S ↔ s ∈ S := by
  unfold sortB
  rw [List.mem_map]
  constructor
  · rintro ⟨l, hl, rfl⟩
    have := (List.mergeSort_perm (S.map fun s => s.data.toList) _).mem_iff.1 hl
    obtain ⟨x, hx, rfl⟩ := List.mem_map.1 this
    simpa [bstr] using hx
  · intro h
    exact ⟨s.data.toList, (List.mergeSort_perm (S.map fun s => s.data.toList) _).mem_iff.2 (List.mem_map.2 ⟨s, h, rfl⟩), by simp [bstr]⟩
/-- slices.Sorted of maps.Keys' iterator. -/
theorem acalls_sorted {P : Program} {fs fk : FuncId} {kt : TypeId} {n m : Nat} (hk : P.underlying kt = some .string)
    (hseq : ∀ (w : World) (Bm b nn : Nat) (D0 : DataW Unit), Bm < w.heap.size → w.cell? ⟨Bm, 0, none⟩ = some (.map (some b)) → w.ownsMap P kt (fun _ => some ((.nil : DataW Unit), [])) b nn D0 → SeqGives Fence.wide n P fk #[.pointer (some ⟨Bm, 0, none⟩)] encStr (fun ss => ss.Perm (strKeys D0)) (Maps.size D0) w)
    (hsrt : ∀ (Bm N : Nat) (S : List (List UInt8) → Prop) (w : World), N ≤ maxLen → N * 16 ≤ 140737488355328 → SeqGives Fence.wide n P fk #[.pointer (some ⟨Bm, 0, none⟩)] encStr S N w →
      CallsIn Fence.wide m P fs #[.func (.func fk) #[] #[.pointer (some ⟨Bm, 0, none⟩)]] w fun e w' => ∃ (v : Value) (ss : List (List UInt8)) (t : TypeId), e = .returned v ∧ S ss ∧ w'.ownsRow w.heap.size t 1 v ss.length ((ss.mergeSort (fun x y => decide (x ≤ y))).map encStr) ∧ Below w.heap.size w w')
    {σ : Store} {o om : Nat} {S : List ByteArray} (ho : σ.objs[o]? = some (.box [.map om])) (hom : σ.objs[om]? = some (.map (tK S) (tV S))) (hl : S.length ≤ 1000000000) (hs : ∀ s, s ∈ S → s.size ≤ maxLen) :
    ACalls P fs [.func (.func fk) [.ptr o 0]] σ fun r σ' => r = .pv (.slice ((sortB S).map .str)) ∧ σ' = σ := by
  have h := acalls_strs (P := P) (f := fs) (args := [.func (.func fk) [.ptr o 0]]) (σ := σ) (Q := fun ss => ss = (S.map fun s => s.data.toList).mergeSort fun x y => decide (x ≤ y)) (fun g w cargs hinv hlen hargs => ?_)
  · refine h.mono ?_
    rintro r σ' ⟨ss, rfl, rfl, rfl⟩
    exact ⟨by unfold sortB; rw [List.map_map]; rfl, rfl⟩
  · match cargs, hlen with
    | [v], hlen1 =>
      have hv := hargs 0 _ v rfl rfl
      cases hv with
      | func hfl hfr =>
        rename_i vs
        match vs, hfl with
        | [p], hpl1 =>
          have hp := hfr 0 _ p rfl rfl
          cases hp with
          | ptr hio =>
            rename_i Bm
            obtain ⟨_, us, e, h6, h7, h8, h9⟩ := hinv.objs o _ Bm ho hio
            match us, h7 with
            | [u], hul1 =>
              have hu := h9 0 _ u rfl rfl
              cases hu with
              | map hio2 =>
                rename_i b
                have hbm := (hinv.low Bm (mem_io hio)).2.1
                obtain ⟨D0, k1, k2, k3⟩ := owns_set hk (hinv.objs om _ b hom hio2) (Nat.le_trans hl (by decide)) hs
                have hcell : w.cell? ⟨Bm, 0, none⟩ = some (.map (some b)) := by rw [cell_of_heap h6]; rfl
                have hsq := hseq w Bm b S.length D0 hbm hcell k1
                refine (callsIn_wide.1 (hsrt Bm (Maps.size D0) _ w (by rw [k3]; exact Nat.le_trans hl (by decide)) (by rw [k3]; omega) hsq)).mono ?_
                rintro e' w' ⟨v, ss, t, rfl, hS, hrow, hb⟩
                refine ⟨v, ss.mergeSort fun x y => decide (x ≤ y), t, rfl, sort_perm (hS.trans k2), ?_, hb⟩
                rw [List.length_mergeSort]
                exact hrow
end Go.Aw

namespace Go.Aw
open Go
end Go.Aw

namespace Go.Aw
open Go
theorem sym_self {d : D} (h : formed d = true) (hk : d.kind = 2) : dsym d.text = d := by
  obtain ⟨h1, h2, _⟩ := formed_sym h hk
  cases d
  simp only [D.kind, D.num, D.kids, D.text] at *
  subst h1 h2 hk
  rfl
theorem mName_kind {d : D} (h : mName d = true) : d.kind = 2 := by
  unfold mName at h
  simp only [Bool.and_eq_true, beq_iff_eq] at h
  exact h.1
theorem list_self {d : D} (h : formed d = true) (hk : d.kind = 3) : dlist d.kids = d := by
  obtain ⟨h1, h2⟩ := formed_list h hk
  cases d
  simp only [D.kind, D.num, D.kids, D.text] at *
  subst h1 h2 hk
  rfl
theorem nms_take {d : D} (h : formed d = true) (hn : ∀ x, x ∈ (d.kids.drop 1).take (shN d.head.text) → mName x = true) : (nmsD d).map dsym = (d.kids.drop 1).take (shN d.head.text) := by
  unfold nmsD
  rw [List.map_map]
  conv => rhs; rw [← List.map_id ((d.kids.drop 1).take (shN d.head.text))]
  refine List.map_congr_left fun x hx => ?_
  exact sym_self (formed_kids h (List.mem_of_mem_drop (List.mem_of_mem_take hx))) (mName_kind (hn x hx))
theorem GoodM.names {d : D} (h : GoodM d) (hk : d.kind = 3) (hq : d.head.text ≠ sQuote) : ∀ x, x ∈ (d.kids.drop 1).take (shN d.head.text) → mName x = true := by
  intro x hx
  rcases (h.list hk).2.2.2.2 with ⟨e, _⟩ | ⟨e, f, y, b, hks, _, hf, hy⟩ | ⟨e, y, a, b, hks, _, hy⟩ | ⟨_, hks, _, hf, hl, _⟩
  · exact absurd e hq
  · rw [e, show shN sFn = 2 from rfl, hks] at hx
    simp at hx
    rcases hx with rfl | rfl <;> assumption
  · rw [e, show shN sLet = 1 from rfl, hks] at hx
    simp at hx
    subst hx; exact hy
  · have : shN d.head.text = 0 := by
      rcases shp_cases d.head.text with ⟨e, s⟩ | ⟨e, s⟩ | ⟨e, s⟩ | ⟨e, s⟩ | ⟨e, s⟩ | ⟨e, s⟩ | ⟨e, s⟩ | ⟨e, s⟩ | ⟨s, _⟩
      all_goals first | exact absurd e hq | exact absurd e hf | exact absurd e hl | exact shN_of s | exact shN_none s
    rw [this] at hx
    simp at hx
/-- A term is its head, its names and the terms in it. -/
theorem GoodM.split {d : D} (h : GoodM d) (hk : d.kind = 3) (hq : d.head.text ≠ sQuote) : d.kids = d.head :: (nmsD d).map dsym ++ inner d := by
  rw [nms_take h.formed (h.names hk hq), inner_eq, if_neg (by rw [hk]; decide), if_neg (by simpa using hq)]
  obtain ⟨x0, r, hx⟩ := kids_cons (h.ne hk)
  rw [head_cons hx, hx]
  simp only [List.drop_succ_cons, List.drop_zero, List.cons_append]
  rw [show 1 + shN x0.text = shN x0.text + 1 by omega, List.drop_succ_cons, List.take_append_drop]
theorem GoodM.self {d : D} (h : GoodM d) (hk : d.kind = 3) (hq : d.head.text ≠ sQuote) : dlist (d.head :: (nmsD d).map dsym ++ inner d) = d := by rw [← h.split hk hq, list_self h.formed hk]
theorem made_kids (h : D) (ns : List ByteArray) (l : List D) : (dlist (h :: ns.map dsym ++ l)).kids = h :: (ns.map dsym ++ l) := rfl
theorem made_head (h : D) (ns : List ByteArray) (l : List D) : (dlist (h :: ns.map dsym ++ l)).head = h := rfl
theorem isW_made {d : D} {ns : List ByteArray} {l : List D} {w : ByteArray} (hk : d.kind = 3) : isW (dlist (d.head :: ns.map dsym ++ l)) w = isW d w := by
  unfold isW
  rw [made_head, hk]; rfl
def lv (d : D) : Bool := isW d sLift || isW d sRun
def Flat (d : D) : Prop := ∀ x, x ∈ mall d → lv x = false
theorem Flat.part {d x : D} (h : Flat d) (hx : x ∈ inner d) : Flat x := fun y hy => h y (by rw [mall_eq]; exact List.mem_cons_of_mem _ (List.mem_flatMap.2 ⟨x, hx, hy⟩))
theorem Flat.self {d : D} (h : Flat d) : lv d = false := h d (by rw [mall_eq]; simp)
theorem inner_quote {d : D} (h : d.head.text = sQuote) : inner d = [] := by
  rw [inner_eq]
  split
  · rfl
  · rw [if_pos (by simpa using h)]
end Go.Aw

namespace Go.Aw
open Go
/-- Where a term binds names, they are bound in one of the terms in it. -/
theorem GoodM.binds {d : D} (h : GoodM d) (hk : d.kind = 3) (hq : d.head.text ≠ sQuote) (hs : 0 < shN d.head.text) : ∃ (i : Nat) (y : D), (inner d)[i]? = some y ∧ bnd d i = nmsD d := by
  rcases (h.list hk).2.2.2.2 with ⟨e, _⟩ | ⟨e, f, y, b, hks, hi, hf, hy⟩ | ⟨e, y, a, b, hks, hi, hy⟩ | ⟨_, hks, _, hf, hl, _⟩
  · exact absurd e hq
  · refine ⟨0, b, by rw [hi]; rfl, ?_⟩
    have hw : isW d sFn = true := isW_iff.2 ⟨hk, e⟩
    unfold bnd nmsD
    rw [if_pos hw, e, show shN sFn = 2 from rfl, hks]; rfl
  · refine ⟨1, b, by rw [hi]; rfl, ?_⟩
    have hw : isW d sLet = true := isW_iff.2 ⟨hk, e⟩
    have hw2 : isW d sFn = false := by
      unfold isW
      rw [e]
      have : decide (sLet = sFn) = false := by decide
      rw [this]; simp
    unfold bnd nmsD
    rw [hw2, hw, if_neg (by decide), if_pos (by decide), e, show shN sLet = 1 from rfl, hks]; rfl
  · have : shN d.head.text = 0 := by
      rcases shp_cases d.head.text with ⟨e, s⟩ | ⟨e, s⟩ | ⟨e, s⟩ | ⟨e, s⟩ | ⟨e, s⟩ | ⟨e, s⟩ | ⟨e, s⟩ | ⟨e, s⟩ | ⟨s, _⟩
      all_goals first | exact absurd e hq | exact absurd e hf | exact absurd e hl | exact shN_of s | exact shN_none s
    omega
end Go.Aw

namespace Go.Aw
open Go
/-! ### names made of a letter and a number -/
/-- A name that may be bound. -/
def okName (s : ByteArray) : Prop := formed (dsym s) = true ∧ mName (dsym s) = true
def frM (d : D) : List ByteArray → ByteArray → Prop := mcata (fun d (rs : List (List ByteArray → ByteArray → Prop)) l x => (d.kind = 2 ∧ d.text = x ∧ x ∉ l) ∨ ∃ (i : Nat) (r : List ByteArray → ByteArray → Prop), rs[i]? = some r ∧ r (l ++ bnd d i) x) d
theorem frM_eq {d : D} {l : List ByteArray} {x : ByteArray} : frM d l x ↔ (d.kind = 2 ∧ d.text = x ∧ x ∉ l) ∨ ∃ (i : Nat) (y : D), (inner d)[i]? = some y ∧ frM y (l ++ bnd d i) x := by
  unfold frM
  rw [mcata_eq]
  constructor
  · rintro (h | ⟨i, r, h1, h2⟩)
    · exact .inl h
    · rw [List.getElem?_map] at h1
      obtain ⟨y, hy, rfl⟩ := Option.map_eq_some_iff.1 h1
      exact .inr ⟨i, y, hy, h2⟩
  · rintro (h | ⟨i, y, h1, h2⟩)
    · exact .inl h
    · exact .inr ⟨i, _, by rw [List.getElem?_map, h1]; rfl, h2⟩
inductive Al (B : ByteArray → Prop) : D → D → List ByteArray → List ByteArray → Prop where
  | sym {d : D} {old now : List ByteArray} {i : Nat} {x : ByteArray} (hk : d.kind = 2) (hl : lastI old d.text = some i) (hx : now[i]? = some x) : Al B d (dsym x) old now
  | free {d : D} {old now : List ByteArray} (hk : d.kind = 2) (hl : lastI old d.text = none) : Al B d d old now
  | leaf {d : D} {old now : List ByteArray} (hk : d.kind = 1 ∨ isW d sQuote = true) : Al B d d old now
  | list {d : D} {old now ns : List ByteArray} {l : List D} (hk : d.kind = 3) (hq : d.head.text ≠ sQuote) (hn : ns.length = shN d.head.text) (hB : ∀ x, x ∈ ns → B x) (hnd : ns.Nodup) (hfr : ∀ x, x ∈ ns → x ∉ now) (hl : l.length = (inner d).length)
      (h : ∀ (i : Nat) x z, (inner d)[i]? = some x → l[i]? = some z → Al B x z (old ++ bnd d i) (now ++ ns.take (bnd d i).length)) : Al B d (dlist (d.head :: ns.map dsym ++ l)) old now
theorem bnd_made {d : D} {ns : List ByteArray} {l : List D} (hk : d.kind = 3) (hn : ns.length = shN d.head.text) (i : Nat) : bnd (dlist (d.head :: ns.map dsym ++ l)) i = ns.take (bnd d i).length := by
  unfold bnd
  rw [isW_made hk, isW_made hk]
  by_cases hf : isW d sFn = true
  · obtain ⟨_, e⟩ := isW_iff.1 hf
    rw [e, show shN sFn = 2 from rfl] at hn
    match ns, hn with
    | [a, b], _ => simp [hf, dlist, D.kids, d1, d2, dsym, D.text]
  · rw [if_neg hf, if_neg hf]
    by_cases hl : (isW d sLet && (i : Int) == 1) = true
    · rw [if_pos hl, if_pos hl]
      simp only [Bool.and_eq_true] at hl
      obtain ⟨_, e⟩ := isW_iff.1 hl.1
      rw [e, show shN sLet = 1 from rfl] at hn
      match ns, hn with
      | [a], _ => simp [dlist, D.kids, d1, dsym, D.text]
    · rw [if_neg hl, if_neg hl]; rfl
theorem lastI_mem {l : List ByteArray} {x : ByteArray} {i : Nat} (h : lastI l x = some i) : x ∈ l := List.mem_of_getElem? ((lastI_spec l x).1 i h).1
theorem lastI_not {l : List ByteArray} {x : ByteArray} : lastI l x = none ↔ x ∉ l := by
  constructor
  · intro h hx
    obtain ⟨j, hj, e⟩ := List.getElem_of_mem hx
    exact (lastI_spec l x).2 h j (by rw [← e]; simp)
  · intro h
    cases hr : lastI l x with
    | none => rfl
    | some i => exact absurd (lastI_mem hr) h
/-- What the names are that stand for bound ones. -/
structure Env (B : ByteArray → Prop) (d : D) (old now : List ByteArray) : Prop where
  mem : ∀ x, x ∈ now → B x
  nd : now.Nodup
  len : now.length = old.length
  fr : ∀ x, frM d old x → ¬ B x
theorem Env.part {B : ByteArray → Prop} {d x : D} {old now ns : List ByteArray} {i : Nat} (h : Env B d old now) (hg : GoodM d) (hk : d.kind = 3) (hq : d.head.text ≠ sQuote) (hn : ns.length = shN d.head.text) (hB : ∀ x, x ∈ ns → B x) (hnd : ns.Nodup) (hfr : ∀ x, x ∈ ns → x ∉ now) (hx : (inner d)[i]? = some x) : Env B x (old ++ bnd d i) (now ++ ns.take (bnd d i).length) := by
  have hb : (bnd d i).length ≤ ns.length := by
    rcases hg.bnd_nms hk i with e | e
    · rw [e]; simp
    · rw [e, hg.nms hk hq, hn]; omega
  refine ⟨fun z hz => ?_, ?_, ?_, fun z hz => h.fr z (frM_eq.2 (.inr ⟨i, x, hx, hz⟩))⟩
  · rcases List.mem_append.1 hz with hz | hz
    · exact h.mem z hz
    · exact hB z (List.mem_of_mem_take hz)
  · refine List.nodup_append.2 ⟨h.nd, (List.take_sublist _ _).nodup hnd, fun a ha b hb e => ?_⟩
    subst e
    exact hfr a (List.mem_of_mem_take hb) ha
  · rw [List.length_append, List.length_append, h.len, List.length_take, Nat.min_eq_left hb]
theorem Al.fr {B : ByteArray → Prop} {d y : D} {old now : List ByteArray} (h : Al B d y old now) : GoodM d → Env B d old now → ∀ x, frM y now x ↔ frM d old x := by
  induction h with
  | sym hk hl hx =>
    rename_i d old now i x
    intro hg he z
    rw [frM_eq, frM_eq, inner_none (d := dsym x) (by decide : (2 : Int) ≠ 3), inner_none (d := d) (by rw [hk]; decide)]
    constructor
    · rintro (⟨_, e, hn⟩ | ⟨_, _, h, _⟩)
      · have e : x = z := e
        exact absurd (List.mem_of_getElem? hx) (e ▸ hn)
      · simp at h
    · rintro (⟨_, e, hn⟩ | ⟨_, _, h, _⟩)
      · exact absurd (lastI_mem hl) (e ▸ hn)
      · simp at h
  | free hk hl =>
    rename_i d old now
    intro hg he z
    have hf : frM d old d.text := frM_eq.2 (.inl ⟨hk, rfl, lastI_not.1 hl⟩)
    have hn : d.text ∉ now := fun hm => he.fr _ hf (he.mem _ hm)
    rw [frM_eq, frM_eq, inner_none (d := d) (by rw [hk]; decide)]
    constructor
    · rintro (⟨h1, e, _⟩ | ⟨_, _, h, _⟩)
      · exact .inl ⟨h1, e, e ▸ lastI_not.1 hl⟩
      · simp at h
    · rintro (⟨h1, e, _⟩ | ⟨_, _, h, _⟩)
      · exact .inl ⟨h1, e, e ▸ hn⟩
      · simp at h
  | leaf hk =>
    rename_i d old now
    intro hg he z
    have hi : inner d = [] ∧ d.kind ≠ 2 := by
      rcases hk with hk | hk
      · exact ⟨inner_none (by rw [hk]; decide), by rw [hk]; decide⟩
      · obtain ⟨h1, h2⟩ := isW_iff.1 hk
        exact ⟨inner_quote h2, by rw [h1]; decide⟩
    rw [frM_eq, frM_eq, hi.1]
    constructor
    · rintro (⟨h1, _⟩ | ⟨_, _, h, _⟩)
      · exact absurd h1 hi.2
      · simp at h
    · rintro (⟨h1, _⟩ | ⟨_, _, h, _⟩)
      · exact absurd h1 hi.2
      · simp at h
  | list hk hq hn hB hnd hfr hl h ih =>
    rename_i d old now ns l
    intro hg he z
    rw [frM_eq, frM_eq (d := d), inner_made hq hn]
    constructor
    · rintro (⟨h1, _⟩ | ⟨i, x, hx, h2⟩)
      · exact absurd h1 (show (3 : Int) ≠ 2 by decide)
      · obtain ⟨hi, _⟩ := List.getElem?_eq_some_iff.1 hx
        have hy : (inner d)[i]? = some ((inner d)[i]'(by omega)) := by simp
        rw [bnd_made hk hn] at h2
        exact .inr ⟨i, _, hy, (ih i _ x hy hx (hg.part (List.mem_of_getElem? hy)) (he.part hg hk hq hn hB hnd hfr hy) z).1 h2⟩
    · rintro (⟨h1, _⟩ | ⟨i, x, hx, h2⟩)
      · rw [hk] at h1; cases h1
      · obtain ⟨hi, _⟩ := List.getElem?_eq_some_iff.1 hx
        have hy : l[i]? = some (l[i]'(by omega)) := by simp
        refine .inr ⟨i, _, hy, ?_⟩
        rw [bnd_made hk hn]
        exact (ih i x _ hx hy (hg.part (List.mem_of_getElem? hx)) (he.part hg hk hq hn hB hnd hfr hx) z).2 h2
/-- A term with other names and other terms in it. -/
theorem GoodM.remade {d : D} (h : GoodM d) (hk : d.kind = 3) (hq : d.head.text ≠ sQuote) {ns : List ByteArray} {l : List D} (hn : ns.length = shN d.head.text) (hok : ∀ x, x ∈ ns → okName x) (hl : l.length = (inner d).length) (hg : ∀ x, x ∈ l → GoodM x) : GoodM (dlist (d.head :: ns.map dsym ++ l)) := by
  obtain ⟨hne, h2, hf0, _, _⟩ := h.list hk
  have hnl := h.nms hk hq
  have hlen := h.inner_length hk hq
  refine ⟨?_, ?_⟩
  · rw [formed_dlist]
    intro x hx
    rw [List.cons_append, List.mem_cons, List.mem_append] at hx
    rcases hx with rfl | hx | hx
    · exact hf0
    · obtain ⟨s, hs, rfl⟩ := List.mem_map.1 hx
      exact (hok s hs).1
    · exact (hg x hx).formed
  · have h0 := h.ok
    have k2 : (d.kind == 2) = false := by rw [hk]; rfl
    have km : mName d = false := by unfold mName; rw [k2]; rfl
    have k1 : (d.kind == 1) = false := by rw [hk]; rfl
    have kl : (d.kids.length : Int) = ((dlist (d.head :: ns.map dsym ++ l)).kids.length : Int) := by
      rw [made_kids, hlen]; simp [hn, hl]; omega
    have kt : ((dlist (d.head :: ns.map dsym ++ l)).kids.drop 1).take (shN d.head.text) = ns.map dsym := by
      rw [made_kids, List.drop_succ_cons, List.drop_zero, List.take_left' (by simp [hn])]
    have kn : (((dlist (d.head :: ns.map dsym ++ l)).kids.drop 1).take (shN d.head.text)).any (fun x => !mName x) = false := by
      rw [kt, List.any_eq_false]
      intro x hx
      obtain ⟨s, hs, rfl⟩ := List.mem_map.1 hx
      rw [(hok s hs).2]; simp
    have hml : mchkL l = 0 := mchkL_zero.2 fun x hx => (hg x hx).ok
    have hx : mName (dlist (d.head :: ns.map dsym ++ l)) = false := rfl
    rw [mchk_eq, k1, km, if_neg (by decide)] at h0
    rw [mchk_eq, show ((dlist (d.head :: ns.map dsym ++ l)).kind == 1) = false from rfl, hx, if_neg (by decide), made_head, inner_made hq hn, hml, ← kl]
    have hc : (d.kind != 3 || (d.kids.length : Int) == 0 || d.head.kind != 2) = ((dlist (d.head :: ns.map dsym ++ l)).kind != 3 || (d.kids.length : Int) == 0 || d.head.kind != 2) := by rw [hk]; rfl
    rw [← hc]
    split at h0
    · exact absurd h0 (by decide)
    · rename_i hcc
      rw [if_neg hcc]
      cases hs : shp d.head.text with
      | none =>
        rw [hs] at h0
        simp only at h0 ⊢
        split at h0
        · exact absurd h0 (by decide)
        · rename_i ha
          rw [if_neg ha]
          split at h0
          · exact absurd h0 (by decide)
          · rename_i hb
            rw [if_neg hb]
      | some p =>
        obtain ⟨a, b⟩ := p
        rw [hs] at h0
        rw [shN_of hs] at kn
        simp only at h0 ⊢
        rw [kn, Bool.or_false]
        split at h0
        · exact absurd h0 (by decide)
        · rename_i ha
          simp only [Bool.or_eq_true, not_or] at ha
          rw [if_neg ha.1]
theorem size_leaf {d : D} (h : GoodM d) (hk : d.kind = 2) : d.size = 1 ∧ d.deep = 1 := by
  obtain ⟨_, hks, _⟩ := formed_sym h.formed hk
  constructor
  · cases d
    simp only [D.kids] at hks
    subst hks
    rfl
  · rw [deep_kids, hks]; rfl
theorem Al.good {B : ByteArray → Prop} (hok : ∀ x, B x → okName x) {d y : D} {old now : List ByteArray} (h : Al B d y old now) : GoodM d → (∀ x, x ∈ now → B x) → GoodM y ∧ y.size ≤ d.size ∧ y.deep ≤ d.deep := by
  induction h with
  | sym hk hl hx =>
    rename_i d old now i x
    intro hg hB
    have h1 := hok x (hB x (List.mem_of_getElem? hx))
    obtain ⟨h2, h3⟩ := size_leaf hg hk
    refine ⟨⟨h1.1, ?_⟩, by rw [h2]; exact Nat.le_refl _, by rw [h3]; exact Nat.le_refl _⟩
    rw [mchk_eq, h1.2, if_pos (by simp)]
  | free hk hl => exact fun hg _ => ⟨hg, Nat.le_refl _, Nat.le_refl _⟩
  | leaf hk => exact fun hg _ => ⟨hg, Nat.le_refl _, Nat.le_refl _⟩
  | list hk hq hn hB hnd hfr hl h ih =>
    rename_i d old now ns l
    intro hg hBn
    have hnl := hg.nms hk hq
    have hsp := hg.split hk hq
    have hin : ∀ (i : Nat) z, l[i]? = some z → ∃ x, (inner d)[i]? = some x ∧ GoodM z ∧ z.size ≤ x.size ∧ z.deep ≤ x.deep := by
      intro i z hz
      obtain ⟨hi, _⟩ := List.getElem?_eq_some_iff.1 hz
      have hx : (inner d)[i]? = some ((inner d)[i]'(by omega)) := by simp
      refine ⟨_, hx, ih i _ z hx hz (hg.part (List.mem_of_getElem? hx)) fun w hw => ?_⟩
      rcases List.mem_append.1 hw with hw | hw
      · exact hBn w hw
      · exact hB w (List.mem_of_mem_take hw)
    have hmem : ∀ z, z ∈ l → ∃ x, x ∈ inner d ∧ GoodM z ∧ z.size ≤ x.size ∧ z.deep ≤ x.deep := by
      intro z hz
      obtain ⟨i, hi, rfl⟩ := List.getElem_of_mem hz
      obtain ⟨x, hx, h⟩ := hin i _ (List.getElem?_eq_getElem hi)
      exact ⟨x, List.mem_of_getElem? hx, h⟩
    have hsz : ∀ (a b : List D), a.length = b.length → (∀ (i : Nat) x z, b[i]? = some x → a[i]? = some z → z.size ≤ x.size) → D.sizes a ≤ D.sizes b := by
      intro a
      induction a with
      | nil => intro b _ _; simp [D.sizes]
      | cons z a iha =>
        intro b hab hh
        match b, hab with
        | x :: b, hab =>
          simp only [D.sizes]
          have h1 := hh 0 x z rfl rfl
          have h2 := iha b (by simpa using hab) fun i x z hx hz => hh (i + 1) x z (by simpa using hx) (by simpa using hz)
          omega
    refine ⟨hg.remade hk hq hn (fun x hx => hok x (hB x hx)) hl fun z hz => (hmem z hz).choose_spec.2.1, ?_, ?_⟩
    · have e := hg.self hk hq
      have e1 : d.size = 1 + (d.head.size + (nmsD d).length + D.sizes (inner d)) := by
        conv => lhs; rw [← e]
        rw [size_list, sizes_append]; simp only [D.sizes, sizes_syms]
      rw [size_list, sizes_append]
      simp only [D.sizes, sizes_syms]
      have := hsz l (inner d) hl fun i x z hx hz => by
        obtain ⟨x', hx', h⟩ := hin i z hz
        rw [hx] at hx'; cases hx'
        exact h.2.1
      omega
    · rw [deep_dlist, deep_kids d, hsp]
      have : D.deeps (d.head :: ns.map dsym ++ l) ≤ D.deeps (d.head :: (nmsD d).map dsym ++ inner d) := by
        rw [deeps_le]
        intro x hx
        rw [List.cons_append, List.mem_cons, List.mem_append] at hx
        rcases hx with rfl | hx | hx
        · exact deep_le_deeps (by simp)
        · obtain ⟨s, hs, rfl⟩ := List.mem_map.1 hx
          have h0 : 0 < (nmsD d).length := by rw [hnl, ← hn]; exact List.length_pos_of_mem hs
          obtain ⟨s0, r0, hr⟩ : ∃ s0 r0, nmsD d = s0 :: r0 := by
            cases hh : nmsD d with
            | nil => rw [hh] at h0; simp at h0
            | cons s0 r0 => exact ⟨s0, r0, rfl⟩
          have : (dsym s0).deep ≤ D.deeps (d.head :: (nmsD d).map dsym ++ inner d) := deep_le_deeps (by rw [hr]; simp)
          exact this
        · obtain ⟨y, hy, _, _, hdp⟩ := hmem x hx
          exact Nat.le_trans hdp (deep_le_deeps (by simp [hy]))
      omega
end Go.Aw

namespace Go.Aw
open Go
theorem nodup_range {f : Nat → ByteArray} {s : Nat} (h : ∀ i j, i < s → j < s → f i = f j → i = j) : ((List.range s).map f).Nodup := by
  rw [List.nodup_iff_pairwise_ne, List.pairwise_map]
  refine List.Pairwise.imp_of_mem ?_ List.pairwise_lt_range
  intro a b ha hb hab e
  have := h a b (List.mem_range.1 ha) (List.mem_range.1 hb) e
  omega
end Go.Aw

namespace Go.Aw
open Go
/-! ### a term with other terms in it -/
def sPrn : ByteArray := ⟨#[112, 114, 105, 110, 116]⟩
/-- What a list that is a term has in it, by its first word. -/
theorem GoodM.app {d : D} (h : GoodM d) (hw : isW d sApp = true) : ∃ a b, inner d = [a, b] ∧ d.kids = [d.head, a, b] ∧ d.kind = 3 ∧ d.head.text = sApp := by
  obtain ⟨hk, ht⟩ := isW_iff.1 hw
  rcases (h.list hk).2.2.2.2 with ⟨e, _⟩ | ⟨e, _⟩ | ⟨e, _⟩ | ⟨_, hks, _, hf, hl, hn⟩
  · rw [e] at ht; exact absurd ht (by decide)
  · rw [e] at ht; exact absurd ht (by decide)
  · rw [e] at ht; exact absurd ht (by decide)
  · rw [ht, if_neg (by decide), if_pos (.inl rfl)] at hn
    match hi : inner d, (show (inner d).length = 2 by omega) with
    | [a, b], _ => exact ⟨a, b, rfl, by rw [hks, hi], hk, ht⟩
@[go_sem high] theorem seq_enc4 (x y z u : D) : seqPV 4 0 [(0, AV.pv (enc x)), (1, AV.pv (enc y)), (2, AV.pv (enc z)), (3, AV.pv (enc u))] = some [enc x, enc y, enc z, enc u] := by simp [seqPV, toPV, atomToPV, nrm_enc, enc_cells]
end Go.Aw

namespace Go.Aw
open Go
def primB (s : ByteArray) : Bool := (arity s).2 || decide (s = sPrn)
theorem arity_word {s : ByteArray} (h : (arity s).2 = true) : wordN s = 0 := by
  rcases wordN_cases s with ⟨e, _⟩ | ⟨e, _⟩ | ⟨e, _⟩ | ⟨e, _⟩ | ⟨e, _⟩ | ⟨e, _⟩ | ⟨e, _⟩ | ⟨_, h0⟩
  all_goals first | exact h0 | (subst e; exact absurd h (by decide +kernel))
theorem arity_le (s : ByteArray) : (arity s).1 ≤ 2 := by
  rw [← arityR_eq]; unfold arityR
  split
  · decide
  · split <;> decide
/-! ### the expression -/
end Go.Aw

namespace Go.Aw
open Go
theorem addS_nodup {S : List ByteArray} {x : ByteArray} (h : S.Nodup) : (addS S x).Nodup := by
  unfold addS
  split
  · exact h
  · rename_i hm
    refine List.nodup_append.2 ⟨h, by simp, fun a ha b hb e => ?_⟩
    rw [List.mem_singleton] at hb
    subst hb; subst e
    exact hm (memB_iff.2 ha)
theorem sfree_nodup : ∀ (d : D) (l S : List ByteArray), S.Nodup → (sfree d l S).Nodup := by
  intro d
  induction d using D.indS with
  | h d ih =>
    intro l S hS
    rw [sfree_eq]
    split
    · split
      · exact hS
      · exact addS_nodup hS
    · have key : ∀ (L : List (Sub × D)), (∀ q, q ∈ L → q ∈ subs d) → ∀ S : List ByteArray, S.Nodup → (L.foldl (fun S q => sfree q.2 (q.1.ns.map (·.1) ++ l) S) S).Nodup := by
        intro L
        induction L with
        | nil => intro _ S h; exact h
        | cons q L ihL =>
          intro hL S h
          rw [List.foldl_cons]
          exact ihL (fun x hx => hL x (by simp [hx])) _ (ih q (hL q (by simp)) _ S h)
      exact key (subs d) (fun _ h => h) S hS
def primS : List ByteArray := primL.map (·.1) ++ [sPrn]
theorem primB_mem {s : ByteArray} (h : primB s = true) : s ∈ primS := by
  unfold primB at h
  unfold primS
  rw [List.mem_append, List.mem_singleton]
  rw [Bool.or_eq_true] at h
  rcases h with h | h
  · left
    unfold arity at h
    split at h
    · rename_i p hp
      have h1 := List.mem_of_find?_eq_some hp
      have h2 := List.find?_some hp
      rw [← of_decide_eq_true h2]
      exact List.mem_map.2 ⟨p, h1, rfl⟩
    · cases h
  · exact .inr (of_decide_eq_true h)
theorem primS_size : (primS.all fun s => decide (s.size ≤ 100)) = true := by decide +kernel
theorem primS_len : primS.length ≤ 1000 := by decide +kernel
theorem prims_ok {S : List ByteArray} (hn : S.Nodup) (h : ∀ s, s ∈ S → primB s = true) : S.length ≤ 1000000000 ∧ ∀ s, s ∈ S → s.size ≤ maxLen := by
  refine ⟨Nat.le_trans (nodup_len hn fun x hx => primB_mem (h x hx)) (Nat.le_trans primS_len (by decide)), fun s hs => ?_⟩
  have h1 := List.all_eq_true.1 primS_size s (primB_mem (h s hs))
  exact Nat.le_trans (of_decide_eq_true h1) (by decide)
end Go.Aw

namespace Go.Aw
open Go
theorem headN_k {h : D} {l : List D} (hk : h.kind = 2) : headN (dlist (h :: l)) = wordN h.text := by
  show (if (h.kind == 2) = true then wordN h.text else 0) = _
  rw [hk]; rfl
theorem synKind_nm {h : D} (hk : h.kind = 2) (hw : wordN h.text = 0) : synKind h = 2 := by
  unfold synKind
  rw [hk, hw]; rfl
theorem synKind_n {d : D} (hk : d.kind = 1) : synKind d = 1 := by
  unfold synKind
  rw [hk]; rfl
theorem synKind_gen {d : D} {n : Int} (hk : d.kind = 3) (hl : d.kids ≠ []) (hh : headN d = n) (hn : n ≠ 0) (hf : fmOk n d.kids = true) : synKind d = n := by
  have h0 : ((d.kids.length : Int) == 0) = false := by
    have := List.length_pos_iff.2 hl
    simp only [beq_eq_false_iff_ne]; omega
  unfold synKind
  rw [hk, if_neg (by decide), if_neg (by decide), h0, if_neg (by decide), hh, if_neg (by simpa using hn), if_pos hf]
/-- The names that may be free in an expression: those that are bound about it, labels, primitives. -/
def okX (b : List ByteArray) (F : Nat) (s : ByteArray) : Prop := (arity s).2 = true ∨ (∃ y, y ∈ b ∧ s = xS y) ∨ ∃ i : Nat, i < F ∧ s = fS i
theorem wordN_xS (s : ByteArray) : wordN (xS s) = 0 := wordN_dot 120 s
theorem wordN_fS (n : Int) : wordN (fS n) = 0 := wordN_dot 102 _
theorem cexpr_name {ps : List (D × Int)} {b : List ByteArray} {d : D} (h : cexpr ps b d = 0) (hk : d.kind = 2) : d.text ∈ b := by
  rw [cexpr_eq] at h
  have e1 : (d.kind == 1) = false := by rw [hk]; rfl
  have e2 : (d.kind == 2) = true := by rw [hk]; rfl
  simp only [e1, e2, Bool.true_and, Bool.false_eq_true, if_false, if_true] at h
  split at h
  · cases h
  · split at h
    · cases h
    · rename_i h2
      simp only [Bool.not_eq_true', Bool.not_eq_false, List.any_eq_true, decide_eq_true_eq] at h2
      obtain ⟨y, hy, e⟩ := h2
      rw [e]; exact hy
theorem exprsL_part {d x y : D} (hx : x ∈ parts d) (hy : y ∈ exprsL x) : y ∈ exprsL d := by
  rw [exprsL_eq]; exact List.mem_cons_of_mem _ (List.mem_flatMap.2 ⟨x, hx, hy⟩)
theorem exprsL_self (d : D) : d ∈ exprsL d := by rw [exprsL_eq]; simp
theorem rexpr_syn {ps : List (D × Int)} {lab : D → D} {F : Nat} (hps : ∀ f, (kpar ps f).1 ≤ 8) : ∀ (d : D) (b : List ByteArray), cexpr ps b d = 0 → formed d = true → (∀ y, y ∈ exprsL d → isCall y = true → ∃ i : Nat, i < F ∧ lab (d1 y.kids) = labX i) →
    synOk (rexpr lab nmX true d) = true ∧ ∀ s, s ∈ sfv (rexpr lab nmX true d) → okX b F s := by
  intro d
  induction d using D.ind with
  | _ k n t l ih =>
    generalize hdd : D.mk k n t l = d at *
    have hl : d.kids = l := by rw [← hdd]; rfl
    subst hl
    clear hdd
    intro b hc hf hlab
    rcases formed_kind hf with hk | hk | hk
    · rw [rexpr_num (by rw [hk]; rfl)]
      exact ⟨synOk_leaf (.inl (synKind_n hk)), fun s hs => by rw [sfv_none (.inr (.inl (synKind_n hk)))] at hs; simp at hs⟩
    · rw [rexpr_sym (by rw [hk]; rfl) (by rw [hk]; rfl)]
      have h2 : synKind (nmX d) = 2 := synKind_sym (wordN_xS d.text)
      refine ⟨synOk_leaf (.inr (.inl h2)), fun s hs => ?_⟩
      rw [sfv_name h2, List.mem_singleton] at hs
      exact .inr (.inl ⟨d.text, cexpr_name hc hk, hs⟩)
    · have e1 : (d.kind == 1) = false := by rw [hk]; rfl
      have e2 : (d.kind == 2) = false := by rw [hk]; rfl
      have e3 : (d.kind != 3) = false := by rw [hk]; rfl
      obtain ⟨hne, hhk, hcc⟩ := cexpr_list hc hk
      have hpt : ∀ x, x ∈ parts d → ∀ b', cexpr ps b' x = 0 → synOk (rexpr lab nmX true x) = true ∧ ∀ s, s ∈ sfv (rexpr lab nmX true x) → okX b' F s := fun x hx b' hb' => ih x (parts_mem hx) b' hb' (formed_kids hf (parts_mem hx)) (fun y hy hc => hlab y (exprsL_part hx hy) hc)
      have hpar : parts d = if decide (d.head.text = sQuote) = true then [] else if decide (d.head.text = sLet) = true then d.kids.drop 2 else if decide (d.head.text = sCall) = true then d.kids.drop 2 else d.kids.drop 1 := by unfold parts; rw [e3, if_neg (by decide)]
      -- what holds of lists of parts
      have hmapO : ∀ (r : List D), (∀ x, x ∈ r → x ∈ parts d) → cll ps b r = 0 → (∀ y, y ∈ r.map (rexpr lab nmX true) → synOk y = true) ∧ ∀ s, s ∈ (r.map (rexpr lab nmX true)).flatMap sfv → okX b F s := by
        intro r hr hz
        have hz := cll_zero.1 hz
        refine ⟨fun y hy => ?_, fun s hs => ?_⟩
        · obtain ⟨x, hx, rfl⟩ := List.mem_map.1 hy
          exact (hpt x (hr x hx) b (hz x hx)).1
        · rw [List.mem_flatMap] at hs
          obtain ⟨y, hy, hs⟩ := hs
          obtain ⟨x, hx, rfl⟩ := List.mem_map.1 hy
          exact (hpt x (hr x hx) b (hz x hx)).2 s hs
      rcases hcc with ⟨ht, hlen⟩ | ⟨ht, hlen, hz⟩ | ⟨ht, hlen, hn, hz2, hz3⟩ | ⟨ht, hz⟩ | ⟨hq, hi, hlt, hca, har, hal, hz⟩
      · rw [rexpr_quote e1 e2 (by simpa using ht)]
        have hh : headN d = 3 := by unfold headN; rw [hhk, ht]; exact wQuote
        have h3 : synKind d = 3 := synKind_gen hk hne hh (by decide) (by show ((d.kids.length : Int) == 2) = true; simp [hlen])
        exact ⟨synOk_leaf (.inr (.inr h3)), fun s hs => by rw [sfv_none (.inr (.inr h3))] at hs; simp at hs⟩
      · rw [rexpr_other e1 e2 (by rw [ht]; decide) (by rw [ht]; decide) (by rw [ht]; decide)]
        have hpd : parts d = d.kids.drop 1 := by rw [hpar, ht, if_neg (by decide), if_neg (by decide), if_neg (by decide)]
        obtain ⟨hO, hV⟩ := hmapO (parts d) (fun _ h => h) (by rw [hpd]; exact hz)
        have hpl : (parts d).length = 3 := by rw [hpd, List.length_drop, hlen]
        have h4 : synKind (dlist ([d.head] ++ (parts d).map (rexpr lab nmX true))) = 4 := by
          refine synKind_form (by simp) (by rw [List.singleton_append, headN_k hhk, ht]; exact wIf) (by decide) ?_
          show ((([d.head] ++ (parts d).map (rexpr lab nmX true)).length : Int) == 4) = true
          simp [hpl]
        refine ⟨synOk_list h4 (by decide) fun q hq => hO _ (subs_rest (.inl h4) hq), fun s hs => ?_⟩
        rw [sfv_rest (.inl h4)] at hs
        exact hV s hs
      · rw [rexpr_let e1 e2 (by rw [ht]; decide) (by simpa using ht)]
        have hpd : parts d = [d2 d.kids, d.kids.getD 3 dnone] := by rw [hpar, ht, if_neg (by decide), if_pos (by decide)]; exact drop_two4 hlen
        have hx2 := hpt (d2 d.kids) (by rw [hpd]; simp) b hz2
        have hx3 := hpt (d.kids.getD 3 dnone) (by rw [hpd]; simp) _ hz3
        rw [hpd]
        generalize d2 d.kids = x2 at *
        generalize d.kids.getD 3 dnone = x3 at *
        have h6 : synKind (dlist ([d.head, nmX (d1 d.kids)] ++ [x2, x3].map (rexpr lab nmX true))) = 6 := by
          refine synKind_form (by simp) (by show headN (dlist (d.head :: _)) = 6; rw [headN_k hhk, ht]; exact wLet) (by decide) ?_
          show (((4 : Nat) : Int) == 4 && nmS (nmX (d1 d.kids))) = true
          rw [show nmS (nmX (d1 d.kids)) = true from nmS_sym (wordN_xS _)]; rfl
        refine ⟨synOk_list h6 (by decide) fun q hq => ?_, fun s hs => ?_⟩
        · rcases subs_let h6 hq with e | e
          · rw [e]; exact hx2.1
          · rw [e]; exact hx3.1
        · rw [sfv_let h6] at hs
          rcases List.mem_append.1 hs with hs | hs
          · exact hx2.2 s hs
          · obtain ⟨hs, hm⟩ := List.mem_filter.1 hs
            rcases hx3.2 s hs with h | ⟨y, hy, e⟩ | h
            · exact .inl h
            · rcases List.mem_append.1 hy with hy | hy
              · exact .inr (.inl ⟨y, hy, e⟩)
              · rw [List.mem_singleton] at hy
                subst hy
                have hmm : memB [(nmX (d1 d.kids)).text] s = true := by rw [memB_iff, List.mem_singleton, e]; rfl
                exact absurd hm (by
                  show ¬ (!memB [(nmX (d1 d.kids)).text] s) = true
                  rw [hmm]; decide)
            · exact .inr (.inr h)
      · rw [rexpr_call e1 e2 (by rw [ht]; decide) (by rw [ht]; decide) (by simpa using ht), if_pos rfl]
        obtain ⟨hl2, hil, hkn, hka, hz2⟩ := ccall_zero hz
        obtain ⟨i, hi, hlb⟩ := hlab d (exprsL_self d) (isCall_iff.2 ⟨hk, ht⟩)
        rw [hlb]
        have hpd : parts d = d.kids.drop 2 := by rw [hpar, ht, if_neg (by decide), if_neg (by decide), if_pos (by decide)]
        obtain ⟨hO, hV⟩ := hmapO (parts d) (fun _ h => h) (by rw [hpd]; exact hz2)
        have hpl : (parts d).length ≤ 8 := by
          have := hps (d1 d.kids)
          rw [hka] at this
          rw [hpd, List.length_drop]; omega
        have h2 : synKind (labX i) = 2 := synKind_sym (wordN_fS i)
        have h10 : synKind (dlist ([labX i] ++ (parts d).map (rexpr lab nmX true))) = 10 := synKind_app (by simp) (by show wordN (fS i) = 0; exact wordN_fS i) (by simp; omega)
        refine ⟨synOk_list h10 (by decide) fun q hq => ?_, fun s hs => ?_⟩
        · rcases List.mem_cons.1 (show q.2 ∈ labX i :: (parts d).map (rexpr lab nmX true) from subs_app h10 hq) with e | e
          · rw [e]; exact synOk_leaf (.inr (.inl h2))
          · exact hO _ e
        · rw [sfv_app h10] at hs
          have hs : s ∈ sfv (labX i) ++ ((parts d).map (rexpr lab nmX true)).flatMap sfv := hs
          rcases List.mem_append.1 hs with hs | hs
          · rw [sfv_name h2, List.mem_singleton] at hs
            exact .inr (.inr ⟨i, hi, hs⟩)
          · exact hV s hs
      · rw [rexpr_other e1 e2 (by simpa using hq) (by simpa using hlt) (by simpa using hca)]
        have hpd : parts d = d.kids.drop 1 := by rw [hpar, if_neg (by simpa using hq), if_neg (by simpa using hlt), if_neg (by simpa using hca)]
        obtain ⟨hO, hV⟩ := hmapO (parts d) (fun _ h => h) (by rw [hpd]; exact hz)
        have hw0 := arity_word har
        have hpl : (parts d).length ≤ 2 := by
          have := arity_le d.head.text
          rw [hpd, List.length_drop]; omega
        have h2 : synKind d.head = 2 := synKind_nm hhk hw0
        have h10 : synKind (dlist ([d.head] ++ (parts d).map (rexpr lab nmX true))) = 10 := synKind_app (by simp) (by rw [List.singleton_append, headN_k hhk]; exact hw0) (by simp; omega)
        refine ⟨synOk_list h10 (by decide) fun q hq => ?_, fun s hs => ?_⟩
        · rcases List.mem_cons.1 (show q.2 ∈ d.head :: (parts d).map (rexpr lab nmX true) from subs_app h10 hq) with e | e
          · rw [e]; exact synOk_leaf (.inr (.inl h2))
          · exact hO _ e
        · rw [sfv_app h10] at hs
          have hs : s ∈ sfv d.head ++ ((parts d).map (rexpr lab nmX true)).flatMap sfv := hs
          rcases List.mem_append.1 hs with hs | hs
          · rw [sfv_name h2, List.mem_singleton] at hs
            rw [hs]; exact .inl har
          · exact hV s hs
/-! ### a program -/
theorem cat_inj {a b c : ByteArray} (h : a ++ b = a ++ c) : b = c := by
  have h1 := congrArg (fun x : ByteArray => x.data.toList) h
  simp at h1
  exact ByteArray.ext h1
theorem xS_inj {s t : ByteArray} (h : xS s = xS t) : s = t := cat_inj h
theorem fS_inj {n m : Int} (hn : 0 ≤ n) (hm : 0 ≤ m) (h : fS n = fS m) : n = m := itoaB_inj hn hm (cat_inj h)
theorem namesGo_nodup : ∀ {l : List D} {acc ns : List ByteArray}, acc.Nodup → namesGo acc l = some ns → ns.Nodup
  | [], acc, ns, h, e => by simp [namesGo] at e; subst e; exact h
  | x :: l, acc, ns, h, e => by
    rw [namesGo] at e
    split at e
    · cases e
    · split at e
      · cases e
      · rename_i h2
        refine namesGo_nodup ?_ e
        refine List.nodup_append.2 ⟨h, by simp, fun a ha b hb e => ?_⟩
        rw [List.mem_singleton] at hb
        subst hb; subst e
        exact h2 (List.any_eq_true.2 ⟨_, ha, by simp⟩)
theorem names_nodup {d : D} {ns : List ByteArray} (h : names d = some ns) : ns.Nodup := by
  unfold names at h
  split at h
  · cases h
  · exact namesGo_nodup List.nodup_nil h
theorem nodup_mapI {α β : Type} {f : α → β} : ∀ {l : List α}, l.Nodup → (∀ a b, a ∈ l → b ∈ l → f a = f b → a = b) → (l.map f).Nodup
  | [], _, _ => by simp
  | a :: l, h, hf => by
    have h := List.nodup_cons.1 h
    rw [List.map_cons, List.nodup_cons]
    refine ⟨fun hm => ?_, nodup_mapI h.2 fun x y hx hy => hf x y (by simp [hx]) (by simp [hy])⟩
    obtain ⟨b, hb, e⟩ := List.mem_map.1 hm
    have := hf b a (by simp [hb]) (by simp) e
    subst this; exact h.1 hb
section
variable {p : D} (R : Right p)
include R
theorem Right.par8 (f : D) : (kpar (Aw.heads p).2 f).1 ≤ 8 := by
  rw [R.par f]
  split
  · rename_i d hd
    obtain ⟨x0, x1, x2, ns, hk, _, _, hn, h8⟩ := R.def (List.mem_of_find?_eq_some hd)
    have h1 : d1 d.kids = x1 := by rw [hk]; rfl
    show (((nlist (names (d1 d.kids))).length : Nat) : Int) ≤ 8
    rw [h1, hn]
    show ((ns.length : Nat) : Int) ≤ 8
    omega
  · decide
/-- A definition of the expression. -/
theorem Right.defX {i : Nat} {y : D} (h : (canonL (reach p) labX nmX true)[i]? = some y) : ∃ (ns : List ByteArray) (bd : D), i < (reach p).length ∧ y = dlist [labX i, dlist (ns.map namX), bd] ∧ ns.Nodup ∧ ns.length ≤ 8 ∧ synOk bd = true ∧ ∀ s, s ∈ sfv bd → okX ns (reach p).length s := by
  unfold canonL at h
  rw [List.getElem?_map] at h
  obtain ⟨x, hx, rfl⟩ := Option.map_eq_some_iff.1 h
  have hxm := List.mem_of_getElem? hx
  have hxp := R.reach_mem hxm
  have hlt := (List.getElem?_eq_some_iff.1 hx).1
  obtain ⟨x0, x1, x2, ns, hk, hn, _, _, _, _, h8⟩ := R.df hxp
  have hd1 : d1 x.kids = x1 := by rw [hk]; rfl
  have hpos : (kpar (atL (reach p)) x.head).1 = (i : Int) := by rw [atL_kpar R.reach_apart hx (kq_refl _)]
  have hb := R.body hxp
  rw [hd1, hn] at hb
  have hsy := rexpr_syn (lab := fun f => labX (kpar (atL (reach p)) f).1) (F := (reach p).length) R.par8 (d2 x.kids) ns hb (R.bodyF hxp) (fun y hy hc => by
    obtain ⟨e, he, hq⟩ := R.closed hxm (callsOf_call (R.good hxp) hy hc)
    obtain ⟨j, hj, hje, _⟩ := R.posAt he
    exact ⟨j, hj, by show labX (kpar (atL (reach p)) (d1 y.kids)).1 = labX j; rw [atL_kpar R.reach_apart hje hq]⟩)
  refine ⟨ns, rexpr (fun f => labX (kpar (atL (reach p)) f).1) nmX true (d2 x.kids), hlt, ?_, names_nodup hn, h8, hsy.1, hsy.2⟩
  unfold rdef
  rw [hd1]
  show dlist [labX (kpar (atL (reach p)) x.head).1, _, _] = _
  rw [hpos]
  have hkm : x1.kids.map nmX = ns.map namX := by
    rw [names_texts hn]
    unfold textsL
    rw [List.map_map]; rfl
  rw [hkm]
omit R in
theorem reach_pos0 : 0 < (reach p).length := (List.getElem?_eq_some_iff.1 (head0 (p := p))).1
theorem Right.argc {a : List D} (h : fright p a = true) : a.length ≤ 8 := by
  unfold fright at h
  rw [Bool.and_eq_true] at h
  obtain ⟨x0, x1, x2, ns, hk, hn, _, _, _, _, h8⟩ := R.df R.head_mem
  have h1 : d1 p.head.kids = x1 := by rw [hk]; rfl
  have h2 := h.1
  rw [h1] at h2
  have h3 := names_len hn
  simp only [beq_iff_eq] at h2
  omega
theorem Right.grp (h40 : (canonL (reach p) labX nmX true).length ≤ 40) : isGrp (dlist (canonL (reach p) labX nmX true)) = true := by
  have hlen : (canonL (reach p) labX nmX true).length = (reach p).length := by unfold canonL; rw [List.length_map]
  have hpos := reach_pos0 (p := p)
  generalize hC : canonL (reach p) labX nmX true = C at *
  have hdef := fun (i : Nat) (y : D) (h : C[i]? = some y) => R.defX (i := i) (y := y) (by rw [hC]; exact h)
  unfold isGrp
  rw [if_neg, if_neg]
  · refine differ_of (by show ((C.map D.head).length : Int) ≤ 40; rw [List.length_map]; omega) (fun x hx => ?_) ?_
    · obtain ⟨y, hy, rfl⟩ := List.mem_map.1 hx
      obtain ⟨i, hi, rfl⟩ := List.getElem_of_mem (show y ∈ C from hy)
      obtain ⟨ns, bd, _, e, _⟩ := hdef i C[i] (by simp)
      rw [e]; exact nmS_sym (wordN_fS i)
    · show ((C.map D.head).map D.text).Nodup
      rw [List.map_map]
      have he : C.map (D.text ∘ D.head) = (List.range C.length).map fun i : Nat => fS (i : Int) := by
        apply List.ext_getElem (by simp)
        intro i h1 h2
        simp only [List.length_map] at h1
        obtain ⟨ns, bd, _, e, _⟩ := hdef i C[i] (by simp)
        simp only [List.getElem_map, List.getElem_range, Function.comp]
        rw [e]; rfl
      rw [he]
      exact nodup_mapI List.nodup_range fun a b _ _ h => by have := fS_inj (by omega) (by omega) h; omega
  · rw [Bool.not_eq_true, List.any_eq_false]
    intro x hx
    obtain ⟨i, hi, rfl⟩ := List.getElem_of_mem (show x ∈ C from hx)
    obtain ⟨ns, bd, _, e, hn, h8, _⟩ := hdef i C[i] (by simp)
    rw [e]
    have hnm : isNms (dlist (ns.map namX)) 8 = true := by
      unfold isNms
      rw [Bool.and_eq_true]
      refine ⟨rfl, differ_of (by show ((ns.map namX).length : Int) ≤ 8; rw [List.length_map]; omega) (fun x hx => ?_) ?_⟩
      · obtain ⟨s, _, rfl⟩ := List.mem_map.1 (show x ∈ ns.map namX from hx)
        exact nmS_sym (wordN_xS s)
      · show ((ns.map namX).map D.text).Nodup
        rw [List.map_map]
        exact nodup_mapI hn fun a b _ _ h => xS_inj h
    show ¬ (((3 : Int) != 3 || (((3 : Nat) : Int)) != 3) || !isNms (dlist (ns.map namX)) 8) = true
    rw [hnm]; decide
  · show ¬ (((3 : Int) != 3 || ((C.length : Int) == 0)) || decide (40 < (C.length : Int))) = true
    simp only [Bool.or_eq_true, bne_self_eq_false, beq_iff_eq, decide_eq_true_eq, Bool.false_eq_true, false_or, not_or]
    omega
/-- The whole expression. -/
theorem Right.out {a : List D} (h40 : (canonL (reach p) labX nmX true).length ≤ 40) (ha : a.length ≤ 8) : synOk (exprOut p a) = true ∧ ∀ s, s ∈ sfv (exprOut p a) → (arity s).2 = true := by
  have hg := R.grp h40
  have hlen : (canonL (reach p) labX nmX true).length = (reach p).length := by unfold canonL; rw [List.length_map]
  have hpos := reach_pos0 (p := p)
  unfold exprOut
  have hdef := fun (i : Nat) (y : D) (h : (canonL (reach p) labX nmX true)[i]? = some y) => R.defX (i := i) (y := y) h
  generalize canonL (reach p) labX nmX true = C at *
  have h7 : synKind (dlist [dsym sRec, dlist C, dlist (labX 0 :: a.map quoteD)]) = 7 := by
    refine synKind_form (by simp) (by rw [headN_sym]; exact wRec) (by decide) ?_
    show (((3 : Nat) : Int) == 3 && isGrp (dlist C)) = true
    rw [hg]; rfl
  have hheads : ∀ i : Nat, i < C.length → memB (C.map fun x => x.head.text) (fS i) = true := fun i hi => by
    rw [memB_iff]
    obtain ⟨ns, bd, _, e, _⟩ := hdef i C[i] (by simp)
    exact List.mem_map.2 ⟨C[i], by simp, by rw [e]; rfl⟩
  have hq3 : ∀ x : D, synKind (quoteD x) = 3 := fun x => synKind_form (by simp) (by rw [headN_sym]; exact wQuote) (by decide) rfl
  have hl2 : synKind (labX 0) = 2 := synKind_sym (wordN_fS 0)
  have h10 : synKind (dlist (labX 0 :: a.map quoteD)) = 10 := synKind_app (by simp) (by show wordN (fS 0) = 0; exact wordN_fS 0) (by simp; omega)
  refine ⟨synOk_list h7 (by decide) fun q hq => ?_, fun s hs => ?_⟩
  · rcases subs_rec h7 hq with ⟨x, hx, e⟩ | e
    · obtain ⟨i, hi, rfl⟩ := List.getElem_of_mem (show x ∈ C from hx)
      obtain ⟨ns, bd, _, ey, _, _, hs, _⟩ := hdef i C[i] (by simp)
      rw [e, ey]; exact hs
    · rw [e]
      show synOk (dlist (labX 0 :: a.map quoteD)) = true
      refine synOk_list h10 (by decide) fun q hq => ?_
      rcases List.mem_cons.1 (show q.2 ∈ labX 0 :: a.map quoteD from subs_app h10 hq) with e | e
      · rw [e]; exact synOk_leaf (.inr (.inl hl2))
      · obtain ⟨x, _, e2⟩ := List.mem_map.1 e
        rw [← e2]; exact synOk_leaf (.inr (.inr (hq3 x)))
  · rw [sfv_rec h7] at hs
    rcases List.mem_append.1 hs with hs | hs
    · rw [List.mem_flatMap] at hs
      obtain ⟨x, hx, hs⟩ := hs
      obtain ⟨hs, hm⟩ := List.mem_filter.1 hs
      obtain ⟨i, hi, rfl⟩ := List.getElem_of_mem (show x ∈ C from hx)
      obtain ⟨ns, bd, _, ey, _, _, _, hv⟩ := hdef i C[i] (by simp)
      have hm2 : memB (parS C[i]) s = false ∧ memB (C.map fun x => x.head.text) s = false := by
        have h : (!(memB (parS C[i]) s || memB (C.map fun x => x.head.text) s)) = true := hm
        rw [Bool.not_eq_true', Bool.or_eq_false_iff] at h
        exact h
      have hs2 : s ∈ sfv bd := by rw [ey] at hs; exact hs
      rcases hv s hs2 with h | ⟨y, hy, e⟩ | ⟨j, hj, e⟩
      · exact h
      · have : memB (parS C[i]) s = true := by
          rw [memB_iff, ey]
          show s ∈ (ns.map namX).map D.text
          rw [List.map_map]
          exact List.mem_map.2 ⟨y, hy, by rw [e]; rfl⟩
        rw [hm2.1] at this; cases this
      · have := hheads j (by omega)
        rw [← e, hm2.2] at this; cases this
    · obtain ⟨hs, hm⟩ := List.mem_filter.1 hs
      have hs : s ∈ sfv (dlist (labX 0 :: a.map quoteD)) := hs
      rw [sfv_app h10] at hs
      have hs : s ∈ sfv (labX 0) ++ (a.map quoteD).flatMap sfv := hs
      rcases List.mem_append.1 hs with hs | hs
      · rw [sfv_name hl2, List.mem_singleton] at hs
        have h := hheads 0 (by omega)
        have e : s = fS ((0 : Nat) : Int) := hs
        rw [← e] at h
        have hm : (!memB (C.map fun x => x.head.text) s) = true := hm
        rw [h] at hm; cases hm
      · rw [List.mem_flatMap] at hs
        obtain ⟨y, hy, hs⟩ := hs
        obtain ⟨x, _, e2⟩ := List.mem_map.1 hy
        rw [← e2, sfv_none (.inr (.inr (hq3 x)))] at hs
        simp at hs
end
theorem fexpr_bad2 {p : D} {a : List D} (h : (fexpr p a).2 ≠ 0) : (fexpr p a).1 = dnone := by
  unfold fexpr at h ⊢
  split
  · rfl
  · split
    · rfl
    · split
      · rfl
      · split
        · rfl
        · rename_i h0 h1 h2 h3
          rw [if_neg h0, if_neg h1, if_neg h2, if_neg h3] at h
          exact absurd rfl h
/-- All that the law asks. -/
theorem fexpr_good {p : D} {a : List D} (hp : p.size ≤ 900000000) (h : (fexpr p a).2 = 0) : dcheck (fexpr p a).1 = 0 ∧ synOk (fexpr p a).1 = true ∧ (sfree (fexpr p a).1 [] []).length ≤ 1000000000 ∧ (∀ s, s ∈ sfree (fexpr p a).1 [] [] → s.size ≤ maxLen) ∧ ∀ s, s ∈ sortB (sfree (fexpr p a).1 [] []) → (arity s).2 = true := by
  unfold fexpr at h ⊢
  by_cases h0 : (fcheck p != 0) = true
  · rw [if_pos h0] at h; rw [show fcheck p = 0 from h] at h0; exact absurd h0 (by decide)
  have R : Right p := ⟨by simpa using h0, hp⟩
  rw [if_neg h0] at h ⊢
  by_cases h1 : (!fright p a) = true
  · rw [if_pos h1] at h; exact absurd h (by decide)
  rw [if_neg h1] at h ⊢
  by_cases h2 : decide ((40 : Int) < (canonL (reach p) labX nmX true).length) = true
  · rw [if_pos h2] at h; exact absurd h (by decide)
  rw [if_neg h2] at h ⊢
  by_cases h3 : (dcheck (exprOut p a) != 0) = true
  · rw [if_pos h3] at h; exact absurd h (by decide)
  rw [if_neg h3]
  simp only [decide_eq_true_eq, Int.not_lt] at h2
  obtain ⟨h4, h5⟩ := R.out (a := a) (by omega) (R.argc (by simpa using h1))
  have h6 : ∀ s, s ∈ sfree (exprOut p a) [] [] → (arity s).2 = true := fun s hs => by
    rcases (sfree_mem (exprOut p a) [] [] s).1 hs with h | ⟨h, _⟩
    · simp at h
    · exact h5 s h
  obtain ⟨h8, h9⟩ := prims_ok (sfree_nodup (exprOut p a) [] [] List.nodup_nil) fun s hs => by unfold primB; rw [h6 s hs]; rfl
  exact ⟨by simpa using h3, h4, h8, h9, fun s hs => h6 s ((sortB_mem _ s).1 hs)⟩
end Go.Aw

namespace Go.Aw
open Go
def resNames : List (List UInt8) := [[99, 97, 108, 108], [102, 110], [105, 102], [108, 101, 116], [113, 117, 111, 116, 101], [114, 101, 99], [115, 101, 113], [117, 112]]
def primNames : List (List UInt8 × Int) := primL.map fun p => (p.1.data.toList, p.2)
theorem kfind_any (x : PV) : ∀ ks : List PV, (kfind x ks).isSome = ks.any fun k => x.keq k
  | [] => rfl
  | k :: r => by
    rw [kfind, List.any_cons]
    cases x.keq k with
    | true => rfl
    | false => simp only [Bool.false_eq_true, if_false, Option.isSome_map, Bool.false_or]; exact kfind_any x r
theorem any_mem {α : Type} {l r : List α} (h : ∀ y, y ∈ l ↔ y ∈ r) (f : α → Bool) : l.any f = r.any f := by
  rw [Bool.eq_iff_iff, List.any_eq_true, List.any_eq_true]
  constructor
  · rintro ⟨y, h1, h2⟩; exact ⟨y, (h y).1 h1, h2⟩
  · rintro ⟨y, h1, h2⟩; exact ⟨y, (h y).2 h1, h2⟩
theorem resNames_mem (y : PV) : y ∈ resNames.map strPV ↔ y ∈ resK := by
  simp only [resNames, resK, strPV, List.map_cons, List.map_nil, List.mem_cons, List.not_mem_nil, or_false]
  constructor
  · rintro (rfl | rfl | rfl | rfl | rfl | rfl | rfl | rfl) <;> simp
  · rintro (rfl | rfl | rfl | rfl | rfl | rfl | rfl | rfl) <;> simp
def resO (l : List (List UInt8)) (h : l.Perm resNames) : ResO where
  l := l.map strPV
  len := by rw [List.length_map, h.length_eq]; rfl
  fit := by simp [strPV, KS.fits, KA.fits]
  find := fun x => by
    rw [kfind_any]
    unfold isRes
    rw [kfind_any]
    exact any_mem (fun y => by rw [← resNames_mem y, List.mem_map, List.mem_map]; constructor <;> (rintro ⟨s, h1, h2⟩; exact ⟨s, by first | exact h.mem_iff.1 h1 | exact h.mem_iff.2 h1, h2⟩)) _
theorem resV_of {l : List (List UInt8)} (h : l.Perm resNames) : (l.map fun _ => PV.bool true) = resV := by
  have hl : l.length = 8 := h.length_eq
  match l, hl with
  | [_, _, _, _, _, _, _, _], _ => rfl
theorem primV_of : (primNames.map fun p => PV.agg [strPV p.1, .int .i64 p.2]) = primL.map encPrim := by
  unfold primNames
  rw [List.map_map]
  refine List.map_congr_left fun p _ => ?_
  simp [strPV, encPrim]
/-- A variable of one cell. -/
theorem rp_var {B : Nat} {S : Nat → Nat → Prop} {w : World} {n : Nat} {p : PV} {v : Value} (hn : n < B) (hc : w.cell? ⟨n, 0, none⟩ = some v) (h1 : v.oneCell' = true) (hp : RP B S w p v) : RP B S w (.ptr [p]) (.pointer (some ⟨n, 0, none⟩)) := by
  refine RP.ptr (vs := [v]) rfl (fun i u hu => ?_) (fun i x u hx hu => ?_)
  · match i with
    | 0 => simp at hu; subst hu; exact ⟨.inl hn, by simpa using hc, h1⟩
    | i + 1 => simp at hu
  · match i with
    | 0 => simp at hx hu; subst hx hu; exact hp
    | i + 1 => simp at hx
theorem cell_lt {w : World} {n i : Nat} {v : Value} (h : w.cell? ⟨n, i, none⟩ = some v) : n < w.heap.size := by
  unfold World.cell? at h
  by_cases hlt : n < w.heap.size
  · exact hlt
  · rw [Array.getElem?_eq_none (by show w.heap.size ≤ n; omega)] at h; simp at h
/-- A datum that is handed over. -/
theorem open_agg {v : Value} {k n : Int} {t : ByteArray} {u : Value} (h : v.cells.toList = [.int .i64 k, .int .i64 n, .string t, u]) : v = .agg #[.int .i64 k, .int .i64 n, .string t, u] := by
  cases v with
  | agg cs => simp only [Value.cells] at h; rw [← Array.toArray_toList (xs := cs), h]
  | _ => simp [Value.cells] at h
theorem rp_datum {B : Nat} {S : Nat → Nat → Prop} {w : World} {d : D} {u : Value} (h1 : u.oneCell' = true) (h : RP B S w (.slice (d.kids.map enc)) u) : RP B S w (enc d) (.agg #[.int .i64 d.kind, .int .i64 d.num, .string d.text, u]) := by
  rw [enc_eq]
  refine RP.agg (vs := [.int .i64 d.kind, .int .i64 d.num, .string d.text, u]) rfl (fun v hv => ?_) (fun i x v hx hv => ?_)
  · simp only [List.mem_cons, List.not_mem_nil, or_false] at hv
    rcases hv with rfl | rfl | rfl | rfl <;> first | rfl | exact h1
  · match i with
    | 0 => simp at hx hv; subst hx hv; exact .int
    | 1 => simp at hx hv; subst hx hv; exact .int
    | 2 => simp at hx hv; subst hx hv; exact .str
    | 3 => simp at hx hv; subst hx hv; exact h
    | i + 4 => simp at hx
end Go.Aw

namespace Go.Aw
open Go Go.ChangeShapes Go.WideShapes Go.ChangeAt Go.WideMaps Go.WideElems Go.RowKit
theorem nodup_inj {α β : Type} {f : α → β} : ∀ {l : List α}, (l.map f).Nodup → ∀ {a b : α}, a ∈ l → b ∈ l → f a = f b → a = b
  | [], _, a, b, ha, _, _ => by simp at ha
  | c :: l, h, a, b, ha, hb, e => by
    rw [List.map_cons, List.nodup_cons] at h
    rcases List.mem_cons.1 ha with rfl | ha1
    · rcases List.mem_cons.1 hb with rfl | hb1
      · rfl
      · exact (h.1 (List.mem_map.2 ⟨b, hb1, e.symm⟩)).elim
    · rcases List.mem_cons.1 hb with rfl | hb1
      · exact (h.1 (List.mem_map.2 ⟨a, ha1, e⟩)).elim
      · exact nodup_inj h.2 ha1 hb1 e
theorem find_perm {β : Type} {l1 l2 : List (ByteArray × β)} (h : l1.Perm l2) (hn : (l2.map (·.1)).Nodup) (x : ByteArray) : (l1.find? fun p => decide (p.1 = x)) = l2.find? fun p => decide (p.1 = x) := by
  cases h2 : l2.find? fun p => decide (p.1 = x) with
  | none =>
    rw [List.find?_eq_none] at h2 ⊢
    exact fun p hp => h2 p (h.mem_iff.1 hp)
  | some y =>
    have hy := List.find?_some h2
    have hym := List.mem_of_find?_eq_some h2
    cases h1 : l1.find? fun p => decide (p.1 = x) with
    | none =>
      rw [List.find?_eq_none] at h1
      exact absurd hy (h1 y (h.mem_iff.2 hym))
    | some z =>
      have hz := List.find?_some h1
      have hzm := h.mem_iff.1 (List.mem_of_find?_eq_some h1)
      simp only [decide_eq_true_eq] at hy hz
      rw [nodup_inj hn hzm hym (hz.trans hy.symm)]
section
variable {H : Type} {enc' : TypeId × Value → H} {P : Program} {w : World} {base : Nat} {sp : Nat → Bool} {held : Bool} {S : Nat → Nat → Prop} {t k e : TypeId} {fuel : Nat} {cs : List Value} {ps : List MemPlace}
end
end Go.Aw

namespace Go.Aw
open Go Go.ChangeShapes Go.WideShapes Go.ChangeAt Go.WideMaps Go.WideElems Go.RowKit
def wordsB : List (List UInt8 × Int) := wordL.map fun p => (p.1.data.toList, p.2)
def wdB (p : List UInt8 × Int) : ByteArray × Int := (⟨p.1.toArray⟩, p.2)
theorem wordsB_back : wordsB.map wdB = wordL := by
  unfold wordsB
  rw [List.map_map]
  conv => rhs; rw [← List.map_id wordL]
  refine List.map_congr_left fun p _ => ?_
  simp [wdB]
theorem wordL_nodup : (wordL.map (·.1)).Nodup := by decide +kernel
def wdO (l : List (List UInt8 × Int)) (h : l.Perm wordsB) : WdO where
  l := l.map wdB
  find := fun x => by
    rw [find_perm (h.map wdB) (by rw [wordsB_back]; exact wordL_nodup), wordsB_back]
    rfl
def litWd {H : Type} : DataW H → Int
  | .lit (.int _ a) => a
  | _ => 0
def datWd {H : Type} (p : List UInt8 × Int) : Lit × DataW H := (.string p.1, .lit (.int .i64 p.2))
section
variable {H : Type} {enc' : TypeId × Value → H} {P : Program} {w : World} {base : Nat} {sp : Nat → Bool} {held : Bool} {S : Nat → Nat → Prop} {t k e : TypeId} {fuel : Nat} {cs : List Value} {ps : List MemPlace}
theorem open_words (ht : P.underlying t = some (.map k e)) (hks : P.underlying k = some .string) (he : P.underlying e = some (.int .i64)) {names : List (List UInt8 × Int)}
    (h : DataW.trod enc' P w base sp held fuel t cs = some (.map (names.map datWd), ps)) (hp : names.Perm wordsB) :
    ∃ (b : Nat) (s : WdO), cs = [.map (some b)] ∧ RP w.heap.size S w (.map (wdK s) (wdV s)) (.map (some b)) := by
  rcases WideElems.open_map ht h with ⟨_, hx⟩ | ⟨b, es, clock, n, rfl, rfl, hb, _, F, hx⟩
  · cases hx
  simp only [Prod.mk.injEq, DataW.map.injEq] at hx
  have hperm := foldr_insert_perm (es.toList.map (rg P k (elemAt enc' P w base sp held n e)))
  rw [← hx.1] at hperm
  have hl : ((es.toList.map (rg P k (elemAt enc' P w base sp held n e))).map fun y => (litStr y.1, litWd y.2)).Perm wordsB := by
    have h2 := (hperm.map fun y : Lit × DataW H => (litStr y.1, litWd y.2)).symm
    have e1 : ((names.map (datWd (H := H))).map fun y : Lit × DataW H => (litStr y.1, litWd y.2)) = names := by
      rw [List.map_map]
      conv => rhs; rw [← List.map_id names]
      refine List.map_congr_left fun p _ => ?_
      simp [datWd, litStr, litWd]
    rw [e1] at h2
    exact h2.trans hp
  refine ⟨b, wdO _ hl, rfl, ?_⟩
  have hent : ∀ x, x ∈ es.toList → ∃ (s : ByteArray) (c : Int), x.key = .string s ∧ x.val = .int .i64 c ∧ wdB (litStr (rg P k (elemAt enc' P w base sp held n e) x).1, litWd (rg P k (elemAt enc' P w base sp held n e) x).2) = (s, c) := by
    intro x hxm
    obtain ⟨y, hy⟩ := F.reads x hxm
    have hrg : rg P k (elemAt enc' P w base sp held n e) x = y := rg_of hy
    have hmem : y ∈ names.map (datWd (H := H)) := by
      have : y ∈ es.toList.map (rg P k (elemAt enc' P w base sp held n e)) := List.mem_map.2 ⟨x, hxm, hrg⟩
      exact hperm.mem_iff.2 this
    obtain ⟨s, _, hs⟩ := List.mem_map.1 hmem
    subst hs
    have hkey := rd_key hy
    obtain ⟨z, hz, hz2⟩ := rd_val hy
    rw [keyOf_string hks] at hkey
    have hk2 : ∃ s' : ByteArray, x.key = .string s' ∧ s'.data.toList = s.1 := by
      unfold mapKey at hkey
      rw [hks] at hkey
      split at hkey <;> simp_all [datWd]
    obtain ⟨s', h1, h2⟩ := hk2
    unfold elemAt at hz
    split at hz
    · rename_i hfm
      obtain ⟨c, hcs, hz3, _⟩ := DataW.trod_int he hz
      rw [hz3] at hz2
      simp only [datWd, DataW.lit.injEq, Lit.int.injEq, true_and] at hz2
      refine ⟨s', s.2, h1, ?_, ?_⟩
      · cases hv : x.val with
        | agg cs => rw [hv] at hfm; simp [Value.formed, he] at hfm
        | tuple cs => rw [hv] at hfm; simp [Value.formed] at hfm
        | _ => rw [hv] at hcs; simp [Value.cells] at hcs <;> first | (rw [hcs.1, hcs.2]; rw [hz2]) | (rw [hcs, hz2]) | simp [hcs, hz2]
      · rw [hrg]
        simp [datWd, litStr, litWd, wdB, ← h2]
    · cases hz
  have hblt : b < w.heap.size := by
    by_cases hlt : b < w.heap.size
    · exact hlt
    · rw [Array.getElem?_eq_none (by omega)] at hb; cases hb
  refine RP.map (es := es.toList) (clock := clock) hblt (by rw [hb]) (by simp [wdK, wdO]) (by simp [wdV, wdO]) (fun i x en hx hen => ?_) (fun i x en hx hen => ?_)
  · obtain ⟨s, c, h1, _, h3⟩ := hent en (List.mem_of_getElem? hen)
    simp only [wdK, wdO, List.map_map, List.getElem?_map, hen, Option.map_some, Option.some.injEq] at hx
    subst hx
    simp only [Function.comp]
    rw [h3, h1]; exact .str
  · obtain ⟨s, c, _, h2, h3⟩ := hent en (List.mem_of_getElem? hen)
    simp only [wdV, wdO, List.map_map, List.getElem?_map, hen, Option.map_some, Option.some.injEq] at hx
    subst hx
    simp only [Function.comp]
    rw [h3, h2]; exact .int
end
end Go.Aw

namespace Go.Aw
open Go Go.ChangeShapes Go.WideShapes Go.ChangeAt Go.WideMaps Go.WideElems Go.RowKit
section
variable {H : Type} {enc' : TypeId × Value → H} {P : Program} {w : World} {base : Nat} {spare : Nat → Bool} {held : Bool} {tD tK ti tn ts : TypeId} {S : Nat → Nat → Prop}
theorem open_data (T : DatumTy P tD tK ti tn ts) {fuel : Nat} {cs : List Value} {x : DataW H × List MemPlace} (h : DataW.trod enc' P w base spare held fuel tK cs = some x) :
    ∃ (l : List D) (v : Value), cs = [v] ∧ RP w.heap.size S w (.slice (l.map enc)) v := by
  rcases DataW.trod_slice T.k h with ⟨hv, _⟩ | ⟨a, len, cap, elems, rest, m', rfl, hv, _, hb, hlc, hcm, hel, hes, _⟩
  · exact ⟨[], _, hv, .empty⟩
  · rw [T.cD] at hes
    have hex : ∀ i, i < len → ∃ d : D, ∃ v' : Value, (∀ r, r < 4 → w.cell? ((a.add (i * 4)).add r) = ([.int .i64 d.kind, .int .i64 d.num, .string d.text, v'] : List Value)[r]?) ∧ v'.oneCell' = true ∧ RP w.heap.size S w (.slice (d.kids.map enc)) v' := by
      intro i hi
      have h1 := hes i hi
      have h2 : elems[i]? = some elems[i] := by simp [hel, hi]
      rw [h2] at h1
      obtain ⟨cs', hc, ht⟩ := Option.bind_eq_some_iff.1 h1
      obtain ⟨_, _, hc2⟩ := World.cells?_some hc
      obtain ⟨d, v', he, hone, hrp⟩ := open_datum (S := S) T m' cs' _ ht
      subst he
      exact ⟨d, v', hc2, hone, hrp⟩
    obtain ⟨l, hll, hlq⟩ := exists_list len hex
    refine ⟨l, _, hv, ?_⟩
    by_cases hlen0 : len = 0
    · subst hlen0
      have : l = [] := List.eq_nil_of_length_eq_zero hll
      subst this
      exact .empty
    have hblk : a.block < w.heap.size := by
      obtain ⟨d, v', h1, _⟩ := hex 0 (by omega)
      have h2 := h1 0 (by omega)
      rw [Nat.zero_mul, Addr.add, if_pos rfl, Addr.add, if_pos rfl] at h2
      unfold World.cell? at h2
      by_cases hlt : a.block < w.heap.size
      · exact hlt
      · rw [Array.getElem?_eq_none (by omega)] at h2; simp at h2
    refine rp_slice_of (sz := 4) (by simp [hll]) hlc hblk (by omega) (fun x hx => ?_) (fun q x hx => ?_)
    · obtain ⟨d, _, rfl⟩ := List.mem_map.1 hx
      rw [enc_cells]; rfl
    · rw [List.getElem?_map] at hx
      obtain ⟨d, hd, rfl⟩ := Option.map_eq_some_iff.1 hx
      obtain ⟨v', h1, h2, h3⟩ := hlq q d hd
      refine ⟨[.int .i64 d.kind, .int .i64 d.num, .string d.text, v'], rfl, h1, fun u hu => ?_, fun r y u hy hu => ?_⟩
      · simp only [List.mem_cons, List.not_mem_nil, or_false] at hu
        rcases hu with rfl | rfl | rfl | rfl <;> first | rfl | exact h2
      · rw [enc_cells] at hy
        match r with
        | 0 => simp at hy hu; subst hy hu; exact .int
        | 1 => simp at hy hu; subst hy hu; exact .int
        | 2 => simp at hy hu; subst hy hu; exact .str
        | 3 => simp at hy hu; subst hy hu; exact h3
        | r + 4 => simp at hy
/-- The value itself, where its type is a slice. -/
theorem open_sliceV {r : Reach} {b0 : Nat} {t e : TypeId} {v u : Value} (ht : P.underlying t = some (.slice e)) (hok : Value.okWide P w r b0 t v) (h : v.cells.toList = [u]) : v = u := by
  obtain ⟨a, len, cap, rfl⟩ := okWide_slice ht hok
  simpa [Value.cells] using h
end
end Go.Aw
