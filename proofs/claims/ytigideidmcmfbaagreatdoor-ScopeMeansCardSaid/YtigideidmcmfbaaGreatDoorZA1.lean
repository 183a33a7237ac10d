/- Part of the proof that the statement holds for every input that its row lets in: an own logic of abstract values over the given model, and laws of data and programs; no program is named in it. -/
import Derived.Calls
import Derived.Laws.Cells
import Derived.Laws.AppendOwn
import Derived.Laws.OwnMore
import Derived.Below
import Derived.RangeFuncNested
import Derived.MapKept
import Derived.Tactics
import Derived.KernelRfl
import Derived.Laws.StructEq
import Derived.Laws.BytesString
set_option linter.unusedSimpArgs false
set_option linter.unusedVariables false
namespace Go.Aw
open Go
def wF (ρ : Option Nat) : Fence := { Fence.wide with round := ρ }

def opW (P : Program) (o : Oper) (a : Act) (w : World) (nx : Act → World → Prop) (Q : Exit → Act → World → Prop) : Prop :=
 match (execOp a.eval o).run P w with
 | .ok (.value v) w' => nx (a.put o.dst v) w'
 | .ok .skip w' => nx (a.put o.dst undef) w'
 | .ok (.enter f args) w' => Calls P f args w' fun
   | .returned v, w'' => nx (a.put o.dst v) w''
   | _, _ => False
 | .ok (.round l f tmps assign body) w' => RoundIn Fence.wide 0 P l f tmps assign body w' fun
   | .returned v, w'' => nx (a.put o.dst v) w''
   | _, _ => False
 | _ => False

def opsW (P : Program) (ops : Array Oper) (Q : Exit → Act → World → Prop) : List Nat → Act → World → Prop
 | [], a, w => Q .normal a w
 | i :: rest, a, w =>
  match ops[i]? with
  | none => opsW P ops Q rest a w
  | some o =>
   if Region.wanted o (yielded ops a.tmps) then opW P o a w (opsW P ops Q rest) Q ∨ False
   else opsW P ops Q rest (a.put o.dst undef) w

section
variable {P : Program} {o : Oper} {a : Act} {w : World} {nx nx' : Act → World → Prop} {Q Q' : Exit → Act → World → Prop} {ρ : Option Nat} {ops : Array Oper}
theorem opW.noDefer (h : opW P o a w nx Q) (c : Call) (hc : o.op = .defer c) : False := by
 unfold opW at h
 simp only [execOp, hc, Sem.run_bind, Sem.run_pure] at h
 cases hr : (resolve a.eval c o.type).run P w with
 | ok d w' => rw [hr] at h; simp [Result.andThen] at h
 | halt x w' => rw [hr] at h; simp [Result.andThen] at h

theorem opW.wpIn (h : opW P o a w nx Q) (k : ∀ a w, nx a w → nx' a w) : o.wpIn (wF ρ) 0 P a w nx' Q' := by
 have hd := h.noDefer
 refine ⟨fun _ _ => trivial, ?_⟩
 rw [Oper.semAt_eq _ _ _ (fun c hc => hd c hc)]
 unfold opW at h
 unfold Oper.uponIn
 split at h
 ·rename_i v w' hr; rw [hr]; exact k _ _ h
 ·rename_i w' hr; rw [hr]; exact k _ _ h
 ·rename_i f args w' hr
  rw [hr]
  refine ⟨fun hh => (by cases hh), ?_⟩
  have h2 : CallsIn Fence.wide (0 - 1) P f args w' fun
   | .returned v, w'' => nx (a.put o.dst v) w''
   | _, _ => False := callsIn_wide.2 h
  refine CallsIn.mono (F := wF ρ) h2 ?_
  rintro e w'' hh
  cases e with
  | returned v => exact k _ _ hh
  | panicked => exact hh.elim
  | outgrown => exact hh.elim
 ·rename_i l f tmps assign body w' hr
  rw [hr]
  refine ⟨fun hh => (by cases hh), ?_⟩
  have h2 : RoundIn (wF ρ) (0 - 1) P l f tmps assign body w' fun
   | .returned v, w'' => nx (a.put o.dst v) w''
   | _, _ => False := h
  refine h2.mono ?_
  rintro e w'' hh
  cases e with
  | returned v => exact k _ _ hh
  | panicked => exact hh.elim
  | outgrown => exact hh.elim
 ·exact h.elim

theorem opsW.wpIn : ∀ (l : List Nat) {a : Act} {w : World}, opsW P ops Q l a w → wpOpsIn (wF ρ) 0 P ops Q l a w
 | [], a, w, h => h
 | i :: rest, a, w, h => by
  simp only [opsW] at h
  simp only [wpOpsIn]
  split
  ·rename_i ho; simp only [ho] at h; exact opsW.wpIn rest h
  ·rename_i o ho
   simp only [ho] at h
   split
   ·rename_i hw
    rw [if_pos hw] at h
    exact (h.resolve_right id).wpIn fun _ _ => opsW.wpIn rest
   ·rename_i hw
    rw [if_neg hw] at h
    exact ⟨fun _ _ => trivial, opsW.wpIn rest h⟩
end
end Go.Aw

namespace Go.Aw
open Go
inductive PV where
 | int (k : IntKind) (n : Int)
 | bool (b : Bool)
 | str (s : ByteArray)
 | nils
 | slice (xs : List PV)
 | agg (cs : List PV)
 | ptr (cs : List PV)
 | nilp
 | nilif
 | nilmap
 | nilfn
 | iface (t : TypeId) (p : PV)
 | map (ks vs : List PV)
 | tab (k : IntKind) (zs : List Int)

def PV.cells : PV → List PV
 | .agg cs => cs
 | x => [x]

def flat (xs : List PV) : List PV := xs.flatMap PV.cells

inductive RP (B : Nat) (S : Nat → Nat → Prop) (w : World) : PV → Value → Prop where
 | int {k : IntKind} {n : Int} : RP B S w (.int k n) (.int k n)
 | bool {b : Bool} : RP B S w (.bool b) (.bool b)
 | str {s : ByteArray} : RP B S w (.str s) (.string s)
 | nils : RP B S w .nils (.slice none 0 0)
 | empty {a : Option Addr} {c : Nat} : RP B S w (.slice []) (.slice a 0 c)
 | slice {xs : List PV} {b off cap sz : Nat} {vs : List Value} (hsz : ∀ x, x ∈ xs → x.cells.length = sz) (hl : vs.length = xs.length * sz)
   (hcap : xs.length ≤ cap)
   (hc : ∀ (i : Nat) v, vs[i]? = some v → (b < B ∨ S b (off + i)) ∧ w.cell? ⟨b, off + i, none⟩ = some v ∧ v.oneCell' = true)
   (hr : ∀ (i : Nat) x v, (flat xs)[i]? = some x → vs[i]? = some v → RP B S w x v) : RP B S w (.slice xs) (.slice (some ⟨b, off, none⟩) xs.length cap)
 | agg {cs : List PV} {vs : List Value} (hl : vs.length = cs.length) (h1 : ∀ v, v ∈ vs → v.oneCell' = true)
   (hr : ∀ (i : Nat) x v, cs[i]? = some x → vs[i]? = some v → RP B S w x v) : RP B S w (.agg cs) (.agg vs.toArray)
 | ptr {cs : List PV} {b off : Nat} {vs : List Value} (hl : vs.length = cs.length)
   (hc : ∀ (i : Nat) v, vs[i]? = some v → (b < B ∨ S b (off + i)) ∧ w.cell? ⟨b, off + i, none⟩ = some v ∧ v.oneCell' = true)
   (hr : ∀ (i : Nat) x v, cs[i]? = some x → vs[i]? = some v → RP B S w x v) : RP B S w (.ptr cs) (.pointer (some ⟨b, off, none⟩))
 | nilp : RP B S w .nilp (.pointer none)
 | nilif : RP B S w .nilif .nilIface
 | nilmap : RP B S w .nilmap (.map none)
 | nilfn : RP B S w .nilfn .nilFunc
 | iface {t : TypeId} {p : PV} {v : Value} (h : RP B S w p v) : RP B S w (.iface t p) (.iface t v)
 | map {ks vs : List PV} {b : Nat} {es : List MapEntry} {clock : Nat} (hb : b < B) (hh : w.heap[b]? = some (.map es.toArray clock))
   (hk : es.length = ks.length) (hv : es.length = vs.length)
   (hkr : ∀ (i : Nat) x (e : MapEntry), ks[i]? = some x → es[i]? = some e → RP B S w x e.key)
   (hvr : ∀ (i : Nat) x (e : MapEntry), vs[i]? = some x → es[i]? = some e → RP B S w x e.val) : RP B S w (.map ks vs) (.map (some b))
 | tab {k : IntKind} {zs : List Int} {b : Nat} {e : TypeId} {c : Nat × Nat} (hb : b < B) (hh : w.heap[b]? = some (.cells (zs.map (Value.int k)).toArray e c)) : RP B S w (.tab k zs) (.pointer (some ⟨b, 0, none⟩))

structure Keeps (B : Nat) (S S' : Nat → Nat → Prop) (w w' : World) : Prop where
 mono : ∀ b o, S b o → S' b o
 cell : ∀ b o, (b < B ∨ S b o) → w'.cell? ⟨b, o, none⟩ = w.cell? ⟨b, o, none⟩
 blk : ∀ b : Nat, b < B → w'.heap[b]? = w.heap[b]?

theorem Keeps.refl (B : Nat) (S : Nat → Nat → Prop) (w : World) : Keeps B S S w w := ⟨fun _ _ h => h, fun _ _ _ => rfl, fun _ _ => rfl⟩

theorem Keeps.trans {B : Nat} {S S' S'' : Nat → Nat → Prop} {w w' w'' : World} (h : Keeps B S S' w w') (k : Keeps B S' S'' w' w'') : Keeps B S S'' w w'' :=
 ⟨fun b o x => k.mono b o (h.mono b o x), fun b o x => (k.cell b o (x.imp id (h.mono b o))).trans (h.cell b o x), fun b hb => (k.blk b hb).trans (h.blk b hb)⟩

theorem RP.mono {B : Nat} {S S' : Nat → Nat → Prop} {w w' : World} (k : Keeps B S S' w w') {p : PV} {v : Value} (h : RP B S w p v) : RP B S' w' p v := by
 induction h with
 | int => exact .int
 | bool => exact .bool
 | str => exact .str
 | nils => exact .nils
 | empty => exact .empty
 | slice hsz hl hcap hc _ ih => exact .slice hsz hl hcap (fun i v hv => have h := hc i v hv; ⟨h.1.imp id (k.mono _ _), (k.cell _ _ h.1).trans h.2.1, h.2.2⟩) ih
 | agg hl h1 _ ih => exact .agg hl h1 ih
 | ptr hl hc _ ih => exact .ptr hl (fun i v hv => have h := hc i v hv; ⟨h.1.imp id (k.mono _ _), (k.cell _ _ h.1).trans h.2.1, h.2.2⟩) ih
 | nilp => exact .nilp
 | nilif => exact .nilif
 | nilmap => exact .nilmap
 | nilfn => exact .nilfn
 | iface _ ih => exact .iface ih
 | map hb hh hk hv _ _ ih1 ih2 => exact .map hb ((k.blk _ hb).trans hh) hk hv ih1 ih2
 | tab hb hh => exact .tab hb ((k.blk _ hb).trans hh)

inductive VK where
 | ro
 | full
 | tok (k : Nat)

inductive AV where
 | pv (p : PV)
 | full (xs : List PV)
 | acc (xs : List PV) (k : Nat)
 | ptr (o off : Nat)
 | lptr (i off : Nat)
 | map (o : Nat)
 | func (fn : Fn) (caps : List AV)
 | agg (cs : List AV)
 | tuple (vs : List AV)
 | scr (o n cap : Nat)
 | sl (o off n : Nat)
 | ifc (t : TypeId) (x : AV)
 | vs (kd : VK) (n : Nat) (cs : List AV)
 | vp (cs : List AV)
 | junk

mutual
def AV.noL : AV → Bool
 | .lptr .. => false
 | .func _ cs => AV.noLs cs
 | .agg cs => AV.noLs cs
 | .tuple cs => AV.noLs cs
 | .ifc _ x => AV.noL x
 | .vs _ _ cs => AV.noLs cs
 | .vp cs => AV.noLs cs
 | _ => true
def AV.noLs : List AV → Bool
 | [] => true
 | x :: r => AV.noL x && AV.noLs r
end
theorem AV.noLs_iff : ∀ {l : List AV}, AV.noLs l = true ↔ ∀ x, x ∈ l → x.noL = true
 | [] => by simp [AV.noLs]
 | x :: r => by simp [AV.noLs, AV.noLs_iff (l := r)]

structure Tok where
 n : Nat
 e : TypeId
 sz : Nat

structure TokB where
 b : Nat
 cap : Nat

inductive AObj where
 | box (cells : List AV)
 | map (ks vs : List PV)
 | loop (l : Nat) (st : LoopState) (pe : Option Code) (T : List (Nat × AV)) (N : Nat) (ps : Array Tmp) (assign body : Code)
 | row (e : TypeId) (sz cap : Nat) (xs : List PV)
 | arr (cells : List AV)

def VK.clo (nt : Nat) : VK → Bool
 | .tok k => decide (k < nt)
 | _ => true

mutual
def AV.clo (no nt nl : Nat) : AV → Bool
 | .ptr o _ => decide (o < no)
 | .lptr i _ => decide (i < nl)
 | .map o => decide (o < no)
 | .scr o _ cap => decide (o < no) || decide (cap = 0)
 | .sl o _ _ => decide (o < no)
 | .ifc _ x => AV.clo no nt nl x
 | .vs kd _ cs => kd.clo nt && AV.clos no nt nl cs
 | .vp cs => AV.clos no nt nl cs
 | .acc _ k => decide (k < nt)
 | .func _ cs => AV.clos no nt nl cs
 | .agg cs => AV.clos no nt nl cs
 | .tuple cs => AV.clos no nt nl cs
 | _ => true
def AV.clos (no nt nl : Nat) : List AV → Bool
 | [] => true
 | x :: r => AV.clo no nt nl x && AV.clos no nt nl r
end
theorem AV.clos_iff {no nt nl : Nat} : ∀ {l : List AV}, AV.clos no nt nl l = true ↔ ∀ x, x ∈ l → x.clo no nt nl = true
 | [] => by simp [AV.clos]
 | x :: r => by simp [AV.clos, AV.clos_iff (l := r)]

def AObj.clo (no nt nl : Nat) : AObj → Bool
 | .box cs => AV.clos no nt nl cs
 | .map _ _ => true
 | .loop _ _ _ T _ _ _ _ => AV.clos no nt nl (T.map (·.2))
 | .row .. => true
 | .arr cs => AV.clos no nt nl cs

structure Store where
 gl : List (Nat × PV)
 objs : List AObj
 toks : List Tok

structure Ghost where
 B : Nat
 K : Nat → Prop
 S : Nat → Nat → Prop
 io : List Nat
 lam : List Nat
 tb : List (Option TokB)

inductive RA (g : Ghost) (tk : List Tok) (w : World) : AV → Value → Prop where
 | pv {p : PV} {v : Value} (h : RP g.B g.S w p v) : RA g tk w (.pv p) v
 | full {xs : List PV} {a : Option Addr} {n : Nat} (h : RP g.B g.S w (.slice xs) (.slice a n n)) : RA g tk w (.full xs) (.slice a n n)
 | acc {xs : List PV} {k : Nat} {v : Value} {t : Tok} (h : RP g.B g.S w (.slice xs) v) (ht : tk[k]? = some t) (hn : xs.length ≤ t.n)
   (hsz : ∀ x, x ∈ xs → x.cells.length = t.sz)
   (ho : t.n = xs.length → (∃ tb, g.tb[k]? = some (some tb) ∧ v = .slice (some ⟨tb.b, 0, none⟩) xs.length tb.cap) ∨ ∃ a, v = .slice a xs.length xs.length) : RA g tk w (.acc xs k) v
 | ptr {o off b : Nat} (h : g.io[o]? = some b) : RA g tk w (.ptr o off) (.pointer (some ⟨b, off, none⟩))
 | lptr {i off b : Nat} (h : g.lam[i]? = some b) : RA g tk w (.lptr i off) (.pointer (some ⟨b, off, none⟩))
 | map {o b : Nat} (h : g.io[o]? = some b) : RA g tk w (.map o) (.map (some b))
 | func {fn : Fn} {caps : List AV} {vs : List Value} (hl : vs.length = caps.length) (hr : ∀ (i : Nat) x v, caps[i]? = some x → vs[i]? = some v → RA g tk w x v) :
   RA g tk w (.func fn caps) (.func fn #[] vs.toArray)
 | agg {cs : List AV} {vs : List Value} (hl : vs.length = cs.length) (h1 : ∀ v, v ∈ vs → v.oneCell' = true)
   (hr : ∀ (i : Nat) x v, cs[i]? = some x → vs[i]? = some v → RA g tk w x v) : RA g tk w (.agg cs) (.agg vs.toArray)
 | tuple {cs : List AV} {vs : List Value} (hl : vs.length = cs.length)
   (hr : ∀ (i : Nat) x v, cs[i]? = some x → vs[i]? = some v → RA g tk w x v) : RA g tk w (.tuple cs) (.tuple vs.toArray)
 | scr {o n cap b : Nat} (h : g.io[o]? = some b) (hn : n ≤ cap) (h0 : 0 < cap) : RA g tk w (.scr o n cap) (.slice (some ⟨b, 0, none⟩) n cap)
 | scrnil {o : Nat} : RA g tk w (.scr o 0 0) (.slice none 0 0)
 | sl {o off n c b : Nat} (h : g.io[o]? = some b) (hn : n ≤ c) : RA g tk w (.sl o off n) (.slice (some ⟨b, off, none⟩) n c)
 | ifc {t : TypeId} {x : AV} {v : Value} (h : RA g tk w x v) : RA g tk w (.ifc t x) (.iface t v)
 | vs {kd : VK} {n c : Nat} {a : Option Addr} {cs : List AV} {vs : List Value} (hl : vs.length = cs.length) (hn : n ≤ c)
   (hc : ∀ (i : Nat) v, vs[i]? = some v → ∃ b off, a = some ⟨b, off, none⟩ ∧ (b < g.B ∨ g.S b (off + i)) ∧ w.cell? ⟨b, off + i, none⟩ = some v ∧ v.oneCell' = true)
   (hr : ∀ (i : Nat) x v, cs[i]? = some x → vs[i]? = some v → RA g tk w x v)
   (hf : kd = .full → c = n)
   (hk : ∀ k, kd = .tok k → ∃ t, tk[k]? = some t ∧ n ≤ t.n ∧ cs.length = n * t.sz ∧ (t.n = n → (∃ tb, g.tb[k]? = some (some tb) ∧ a = some ⟨tb.b, 0, none⟩ ∧ c = tb.cap) ∨ c = n)) :
   RA g tk w (.vs kd n cs) (.slice a n c)
 | vp {b off : Nat} {cs : List AV} {vs : List Value} (hl : vs.length = cs.length)
   (hc : ∀ (i : Nat) v, vs[i]? = some v → (b < g.B ∨ g.S b (off + i)) ∧ w.cell? ⟨b, off + i, none⟩ = some v ∧ v.oneCell' = true)
   (hr : ∀ (i : Nat) x v, cs[i]? = some x → vs[i]? = some v → RA g tk w x v) : RA g tk w (.vp cs) (.pointer (some ⟨b, off, none⟩))
 | junk {v : Value} : RA g tk w .junk v

structure Le (g : Ghost) (tk : List Tok) (w : World) (g' : Ghost) (tk' : List Tok) (w' : World) : Prop where
 B : g'.B = g.B
 keeps : Keeps g.B g.S g'.S w w'
 io : ∀ (i b : Nat), g.io[i]? = some b → g'.io[i]? = some b
 tok : ∀ (k : Nat) (t : Tok), tk[k]? = some t → ∃ t', tk'[k]? = some t' ∧ t'.e = t.e ∧ t'.sz = t.sz ∧ t.n ≤ t'.n ∧ (t'.n = t.n → g'.tb[k]? = g.tb[k]?)

theorem Le.refl (g : Ghost) (tk : List Tok) (w : World) : Le g tk w g tk w :=
 ⟨rfl, Keeps.refl _ _ _, fun _ _ h => h, fun _ t h => ⟨t, h, rfl, rfl, Nat.le_refl _, fun _ => rfl⟩⟩

theorem Le.trans {g g' g'' : Ghost} {tk tk' tk'' : List Tok} {w w' w'' : World} (h : Le g tk w g' tk' w') (k : Le g' tk' w' g'' tk'' w'') : Le g tk w g'' tk'' w'' := by
 refine ⟨k.B.trans h.B, h.keeps.trans (h.B ▸ k.keeps), fun i b x => k.io i b (h.io i b x), fun i t ht => ?_⟩
 obtain ⟨t', h1, h2, h3, h4, h5⟩ := h.tok i t ht
 obtain ⟨t'', k1, k2, k3, k4, k5⟩ := k.tok i t' h1
 exact ⟨t'', k1, k2.trans h2, k3.trans h3, Nat.le_trans h4 k4, fun e => by rw [k5 (by omega), h5 (by omega)]⟩

theorem RA.mono {g g' : Ghost} {tk tk' : List Tok} {w w' : World} (k : Le g tk w g' tk' w') (hl : ∀ (i b : Nat), g.lam[i]? = some b → g'.lam[i]? = some b) {x : AV} {v : Value} (h : RA g tk w x v) : RA g' tk' w' x v := by
 have hp : ∀ {p : PV} {v : Value}, RP g.B g.S w p v → RP g'.B g'.S w' p v := fun h => by rw [k.B]; exact h.mono k.keeps
 induction h with
 | pv h => exact .pv (hp h)
 | full h => exact .full (hp h)
 | acc h ht hn hsz ho =>
  obtain ⟨t', h1, h2, h3, h4, h5⟩ := k.tok _ _ ht
  refine .acc (hp h) h1 (Nat.le_trans hn h4) (by rw [h3]; exact hsz) (fun e => ?_)
  rcases ho (by omega) with ⟨tb, h6, h7⟩ | h6
  ·exact .inl ⟨tb, (h5 (by omega)).trans h6, h7⟩
  ·exact .inr h6
 | ptr h => exact .ptr (k.io _ _ h)
 | lptr h => exact .lptr (hl _ _ h)
 | map h => exact .map (k.io _ _ h)
 | func hl' _ ih => exact .func hl' ih
 | agg hl' h1 _ ih => exact .agg hl' h1 ih
 | tuple hl' _ ih => exact .tuple hl' ih
 | scr h hn h0 => exact .scr (k.io _ _ h) hn h0
 | scrnil => exact .scrnil
 | sl h hn => exact .sl (k.io _ _ h) hn
 | ifc _ ih => exact .ifc ih
 | vs hl' hn hc _ hf hk ih =>
  refine .vs hl' hn (fun i v hv => ?_) ih hf (fun kk e => ?_)
  ·obtain ⟨b, off, h1, h2, h3, h4⟩ := hc i v hv
   exact ⟨b, off, h1, by rw [k.B]; exact h2.imp id (k.keeps.mono _ _), (k.keeps.cell _ _ h2).trans h3, h4⟩
  ·obtain ⟨t, h1, h2, h3, h4⟩ := hk kk e
   obtain ⟨t', k1, k2, k3, k4, k5⟩ := k.tok _ _ h1
   refine ⟨t', k1, Nat.le_trans h2 k4, by rw [k3]; exact h3, fun e2 => ?_⟩
   rcases h4 (by omega) with ⟨tb, h6, h7⟩ | h6
   ·exact .inl ⟨tb, (k5 (by omega)).trans h6, h7⟩
   ·exact .inr h6
 | vp hl' hc _ ih => exact .vp hl' (fun i v hv => have h := hc i v hv; ⟨by rw [k.B]; exact h.1.imp id (k.keeps.mono _ _), (k.keeps.cell _ _ h.1).trans h.2.1, h.2.2⟩) ih
 | junk => exact .junk

def RBox (g : Ghost) (tk : List Tok) (w : World) (b : Nat) (cs : List AV) : Prop :=
 ∃ (vs : List Value) (e : TypeId), w.heap[b]? = some (.cells vs.toArray e (0, 0)) ∧ vs.length = cs.length ∧ (∀ v, v ∈ vs → v.oneCell' = true) ∧
  ∀ (i : Nat) x v, cs[i]? = some x → vs[i]? = some v → RA g tk w x v

def RMap (g : Ghost) (w : World) (b : Nat) (ks vs : List PV) : Prop :=
 ∃ (es : List MapEntry) (clock : Nat), w.heap[b]? = some (.map es.toArray clock) ∧ es.length = ks.length ∧ es.length = vs.length ∧
  (∀ (i : Nat) x (e : MapEntry), ks[i]? = some x → es[i]? = some e → RP g.B g.S w x e.key) ∧
  (∀ (i : Nat) x (e : MapEntry), vs[i]? = some x → es[i]? = some e → RP g.B g.S w x e.val) ∧ MapKept.Stamped es.toArray clock

def get : List (Nat × AV) → Nat → AV
 | [], _ => .junk
 | (d, v) :: r, t => if d = t then v else get r t

theorem yei : ∀ {T : List (Nat × AV)} {t : Nat}, get T t = .junk ∨ ∃ p, p ∈ T ∧ get T t = p.2
 | [], t => .inl rfl
 | (d, v) :: r, t => by
  simp only [get]
  split
  ·exact .inr ⟨(d, v), by simp, rfl⟩
  ·rcases yei (T := r) (t := t) with h | ⟨p, hp, h⟩
   ·exact .inl h
   ·exact .inr ⟨p, by simp [hp], h⟩

theorem ybG : ∀ {T : List (Nat × AV)}, (T.map (·.1)).Nodup → ∀ {p : Nat × AV}, p ∈ T → get T p.1 = p.2
 | [], _, p, h => by simp at h
 | (d, v) :: r, hn, p, h => by
  simp only [List.map_cons, List.nodup_cons, List.mem_map, not_exists, not_and] at hn
  simp only [get]
  rcases List.mem_cons.1 h with rfl | h
  ·rw [if_pos rfl]
  ·rw [if_neg (fun e => hn.1 p h e.symm)]
   exact ybG hn.2 h

def RLoop (g : Ghost) (tk : List Tok) (w : World) (b : Nat) (st : LoopState) (pe : Option Code) (T : List (Nat × AV)) (N : Nat) (ps : Array Tmp) (assign body : Code) : Prop :=
 ∃ (fn : FuncId) (tmps : Array Value) (D : Nat), w.heap[b]? = some (.loop { state := st, pending := pe, fn, tmps, params := ps, assign, body, defers := D }) ∧ tmps.size = N ∧
  ∀ t, RA g tk w (get T t) (tmps.getD t undef)

def RRow (g : Ghost) (w : World) (b : Nat) (e : TypeId) (sz cap : Nat) (xs : List PV) : Prop :=
 (∀ x, x ∈ xs → x.cells.length = sz) ∧ xs.length ≤ cap ∧ cap ≤ maxLen ∧ ∃ us rest : List Value, w.heap[b]? = some (.cells (us ++ rest).toArray e (0, 0)) ∧ us.length = xs.length * sz ∧ rest.length = (cap - xs.length) * sz ∧
  (∀ v, v ∈ us → v.oneCell' = true) ∧ ∀ (i : Nat) x v, (flat xs)[i]? = some x → us[i]? = some v → RP g.B g.S w x v

def RArr (g : Ghost) (tk : List Tok) (w : World) (b : Nat) (cs : List AV) : Prop :=
 ∃ (vs rest : List Value) (e : TypeId), w.heap[b]? = some (.cells (vs ++ rest).toArray e (0, 0)) ∧ vs.length = cs.length ∧ (∀ v, v ∈ vs → v.oneCell' = true) ∧
  ∀ (i : Nat) x v, cs[i]? = some x → vs[i]? = some v → RA g tk w x v

def RObj (g : Ghost) (tk : List Tok) (w : World) (b : Nat) : AObj → Prop
 | .box cs => (∀ x, x ∈ cs → x.noL = true) ∧ RBox g tk w b cs
 | .map ks vs => RMap g w b ks vs
 | .loop l st pe T N ps assign body => (b = l ∧ (∀ x, x ∈ T.map (·.2) → x.noL = true) ∧ (T.map (·.1)).Nodup) ∧ RLoop g tk w b st pe T N ps assign body
 | .row e sz cap xs => RRow g w b e sz cap xs
 | .arr cs => (∀ x, x ∈ cs → x.noL = true) ∧ RArr g tk w b cs

def Ghost.owned (g : Ghost) : List Nat := g.io ++ g.lam ++ g.tb.filterMap fun o => o.map (·.b)

structure Inv (g : Ghost) (σ : Store) (L : List (List AV)) (w : World) : Prop where
 lio : g.io.length = σ.objs.length
 llam : g.lam.length = L.length
 ltb : g.tb.length = σ.toks.length
 glob : ∀ n p, (n, p) ∈ σ.gl → RP g.B g.S w p (.pointer (some ⟨n, 0, none⟩))
 nodup : g.owned.Nodup
 low : ∀ b, b ∈ g.owned → g.B ≤ b ∧ b < w.heap.size ∧ ¬ g.K b
 kept : ∀ b, g.K b → b < w.heap.size ∧ ∀ o, ¬ g.S b o
 base : g.B ≤ w.heap.size
 cells : ∀ b o, g.S b o → g.B ≤ b ∧ b < w.heap.size ∧ b ∉ g.io ∧ b ∉ g.lam
 objs : ∀ (o : Nat) (ob : AObj) (b : Nat), σ.objs[o]? = some ob → g.io[o]? = some b → RObj g σ.toks w b ob
 priv : ∀ (i : Nat) (cs : List AV) (b : Nat), L[i]? = some cs → g.lam[i]? = some b → RBox g σ.toks w b cs
 toks : ∀ (k : Nat) (t : Tok) (tb : TokB), σ.toks[k]? = some t → g.tb[k]? = some (some tb) →
  ∃ cur : Array Value, w.heap[tb.b]? = some (.cells cur t.e (0, 0)) ∧ cur.size = tb.cap * t.sz ∧ t.n ≤ tb.cap ∧ tb.cap ≤ maxLen ∧ ∀ o, g.S tb.b o → o < t.n * t.sz

structure Ext (g0 : Ghost) (σ0 : Store) (w0 : World) (g : Ghost) (σ : Store) (w : World) : Prop where
 le : Le g0 σ0.toks w0 g σ.toks w
 gl : σ.gl = σ0.gl
 K : ∀ b, g0.K b → g.K b
 blk : ∀ b : Nat, g0.K b → w.heap[b]? = w0.heap[b]?
 size : w0.heap.size ≤ w.heap.size
 os : w.os = w0.os
 tape : w.tape = w0.tape
 output : w.output = w0.output
 io0 : g0.io.length = σ0.objs.length
 clo0 : ∀ ob, ob ∈ σ0.objs → ob.clo σ0.objs.length σ0.toks.length 0 = true

theorem RA.clo {g : Ghost} {tk : List Tok} {w : World} {x : AV} {v : Value} (h : RA g tk w x v) (hn : x.noL = true) : x.clo g.io.length tk.length 0 = true := by
 induction h with
 | pv => rfl
 | full => rfl
 | acc h ht => simp only [AV.clo, decide_eq_true_eq]; exact (List.getElem?_eq_some_iff.1 ht).1
 | ptr h => simp only [AV.clo, decide_eq_true_eq]; exact (List.getElem?_eq_some_iff.1 h).1
 | lptr h => simp [AV.noL] at hn
 | map h => simp only [AV.clo, decide_eq_true_eq]; exact (List.getElem?_eq_some_iff.1 h).1
 | func hl hr ih =>
  simp only [AV.noL, AV.noLs_iff] at hn
  simp only [AV.clo, AV.clos_iff]
  intro x hx
  obtain ⟨i, hi, rfl⟩ := List.getElem_of_mem hx
  exact ih i _ _ (by simp) (List.getElem?_eq_getElem (by omega)) (hn _ hx)
 | agg hl h1 hr ih =>
  simp only [AV.noL, AV.noLs_iff] at hn
  simp only [AV.clo, AV.clos_iff]
  intro x hx
  obtain ⟨i, hi, rfl⟩ := List.getElem_of_mem hx
  exact ih i _ _ (by simp) (List.getElem?_eq_getElem (by omega)) (hn _ hx)
 | tuple hl hr ih =>
  simp only [AV.noL, AV.noLs_iff] at hn
  simp only [AV.clo, AV.clos_iff]
  intro x hx
  obtain ⟨i, hi, rfl⟩ := List.getElem_of_mem hx
  exact ih i _ _ (by simp) (List.getElem?_eq_getElem (by omega)) (hn _ hx)
 | scr h => simp only [AV.clo, Bool.or_eq_true, decide_eq_true_eq]; exact .inl (List.getElem?_eq_some_iff.1 h).1
 | scrnil => simp [AV.clo]
 | sl h => simp only [AV.clo, decide_eq_true_eq]; exact (List.getElem?_eq_some_iff.1 h).1
 | ifc _ ih => exact ih hn
 | vs hl _ _ hr _ hk ih =>
  rename_i kd _ _ _ _ _ _ _ _
  simp only [AV.noL, AV.noLs_iff] at hn
  simp only [AV.clo, AV.clos_iff, Bool.and_eq_true]
  refine ⟨?_, fun x hx => ?_⟩
  ·cases kd with
   | tok k =>
    obtain ⟨t, h1, _⟩ := hk k rfl
    simp only [VK.clo, decide_eq_true_eq]; exact (List.getElem?_eq_some_iff.1 h1).1
   | _ => rfl
  ·obtain ⟨i, hi, rfl⟩ := List.getElem_of_mem hx
   exact ih i _ _ (by simp) (List.getElem?_eq_getElem (by omega)) (hn _ hx)
 | vp hl _ hr ih =>
  simp only [AV.noL, AV.noLs_iff] at hn
  simp only [AV.clo, AV.clos_iff]
  intro x hx
  obtain ⟨i, hi, rfl⟩ := List.getElem_of_mem hx
  exact ih i _ _ (by simp) (List.getElem?_eq_getElem (by omega)) (hn _ hx)
 | junk => rfl

theorem Inv.clo {g : Ghost} {σ : Store} {L : List (List AV)} {w : World} (h : Inv g σ L w) : ∀ ob, ob ∈ σ.objs → ob.clo σ.objs.length σ.toks.length 0 = true := by
 intro ob hob
 obtain ⟨o, ho, rfl⟩ := List.getElem_of_mem hob
 have hlt : o < g.io.length := by rw [h.lio]; exact ho
 have := h.objs o σ.objs[o] g.io[o] (by simp) (by simp)
 cases hx : σ.objs[o] with
 | map ks vs => rfl
 | row e sz cap xs => rfl
 | arr cs =>
  rw [hx] at this
  obtain ⟨hn, vs, rest, e, h1, h2, h3, h4⟩ := this
  simp only [AObj.clo, AV.clos_iff]
  intro x hx
  obtain ⟨i, hi, rfl⟩ := List.getElem_of_mem hx
  have := (h4 i _ _ (by simp) (List.getElem?_eq_getElem (by omega))).clo (hn _ hx)
  rw [h.lio] at this
  exact this
 | box cs =>
  rw [hx] at this
  obtain ⟨hn, vs, e, h1, h2, h3, h4⟩ := this
  simp only [AObj.clo, AV.clos_iff]
  intro x hx
  obtain ⟨i, hi, rfl⟩ := List.getElem_of_mem hx
  have := (h4 i _ _ (by simp) (List.getElem?_eq_getElem (by omega))).clo (hn _ hx)
  rw [h.lio] at this
  exact this
 | loop l st pe T N ps assign body =>
  rw [hx] at this
  obtain ⟨⟨_, hn, hd⟩, fn, tmps, D, h1, h2, h3⟩ := this
  simp only [AObj.clo, AV.clos_iff]
  intro x hx
  have hnx := hn x hx
  obtain ⟨p, hp, rfl⟩ := List.mem_map.1 hx
  have := (h3 p.1).clo (by rw [ybG hd hp]; exact hnx)
  rw [ybG hd hp, h.lio] at this
  exact this

theorem Ext.refl {g : Ghost} {σ : Store} {L : List (List AV)} {w : World} (h : Inv g σ L w) : Ext g σ w g σ w := ⟨Le.refl _ _ _, rfl, fun _ h => h, fun _ _ => rfl, Nat.le_refl _, rfl, rfl, rfl, h.lio, h.clo⟩

theorem Ext.trans {g g' g'' : Ghost} {σ σ' σ'' : Store} {w w' w'' : World} (h : Ext g σ w g' σ' w') (k : Ext g' σ' w' g'' σ'' w'') : Ext g σ w g'' σ'' w'' :=
 ⟨h.le.trans k.le, k.gl.trans h.gl, fun b hb => k.K b (h.K b hb), fun b hb => (k.blk b (h.K b hb)).trans (h.blk b hb), Nat.le_trans h.size k.size, k.os.trans h.os, k.tape.trans h.tape, k.output.trans h.output, h.io0, h.clo0⟩

structure St where
 T : List (Nat × AV)
 L : List (List AV)
 σ : Store

def Marks (g0 g : Ghost) (w : World) (ds : List Deferred) : Prop :=
 ∃ Ds : List Nat, ds = Ds.map (fun D => { target := .collected D, args := #[] }) ∧ Ds.Nodup ∧ ∀ D, D ∈ Ds → g.K D ∧ ¬ g0.K D ∧ g.B ≤ D ∧ w.heap[D]? = some (.deferred (some []))
theorem Marks.nil {g0 g : Ghost} {w : World} : Marks g0 g w [] := ⟨[], rfl, List.nodup_nil, fun _ h => by simp at h⟩
theorem Marks.mono {g0 g g' : Ghost} {w w' : World} {ds : List Deferred} (h : Marks g0 g w ds) (hK : ∀ b, g.K b → g'.K b) (hB : g'.B = g.B) (hb : ∀ b : Nat, g.K b → w'.heap[b]? = w.heap[b]?) : Marks g0 g' w' ds := by
 obtain ⟨Ds, h1, h2, h3⟩ := h
 exact ⟨Ds, h1, h2, fun D hD => ⟨hK D (h3 D hD).1, (h3 D hD).2.1, by rw [hB]; exact (h3 D hD).2.2.1, (hb D (h3 D hD).1).trans (h3 D hD).2.2.2⟩⟩

def RelG (g0 : Ghost) (σ0 : Store) (w0 : World) (N : Nat) (g : Ghost) (s : St) (a : Act) (w : World) : Prop :=
 Ext g0 σ0 w0 g s.σ w ∧ Inv g s.σ s.L w ∧ a.tmps.size = N ∧ Marks g0 g w a.defers ∧ ∀ t, RA g s.σ.toks w (get s.T t) (a.tmps.getD t undef)

def Rel (g0 : Ghost) (σ0 : Store) (w0 : World) (N : Nat) (s : St) (a : Act) (w : World) : Prop := ∃ g, RelG g0 σ0 w0 N g s a w

def lift (g0 : Ghost) (σ0 : Store) (w0 : World) (N : Nat) (Q : Exit → St → Prop) : Exit → Act → World → Prop :=
 fun e a w => ∃ s, Q e s ∧ Rel g0 σ0 w0 N s a w

def AWpR (ρ : Option Nat) (P : Program) (σ0 : Store) (N : Nat) (c : Code) (Q : Exit → St → Prop) (s : St) : Prop :=
 ∀ g0 w0 a w, Rel g0 σ0 w0 N s a w → c.wpIn (wF ρ) 0 P (lift g0 σ0 w0 N Q) a w
abbrev AWp := AWpR none

def ACalls (P : Program) (f : FuncId) (args : List AV) (σ : Store) (R : AV → Store → Prop) : Prop :=
 ∀ g w (cargs : List Value), Inv g σ [] w → cargs.length = args.length → (∀ (i : Nat) x v, args[i]? = some x → cargs[i]? = some v → RA g σ.toks w x v) →
  Calls P f cargs.toArray w fun e w' => ∃ v r σ' g', e = .returned v ∧ R r σ' ∧ Inv g' σ' [] w' ∧ Ext g σ w g' σ' w' ∧ RA g' σ'.toks w' r v

theorem ACalls.mono {P : Program} {f : FuncId} {args : List AV} {σ : Store} {R R' : AV → Store → Prop} (h : ACalls P f args σ R) (k : ∀ r σ', R r σ' → R' r σ') : ACalls P f args σ R' :=
 fun g w cargs h1 h2 h3 => (h g w cargs h1 h2 h3).mono fun _ _ ⟨v, r, σ', g', e1, e2, e3⟩ => ⟨v, r, σ', g', e1, k _ _ e2, e3⟩

section rules
variable {ρ : Option Nat} {P : Program} {σ0 : Store} {N : Nat} {Q : Exit → St → Prop} {s : St}
theorem yg (h : Q .normal s) : AWpR ρ P σ0 N .skip Q s := fun _ _ _ _ r => wpIn_skip ⟨s, h, r⟩
theorem yd (h : Q .ret s) : AWpR ρ P σ0 N .ret Q s := fun _ _ _ _ r => wpIn_ret ⟨s, h, r⟩
theorem yp {id : Nat} (h : Q (.exit id) s) : AWpR ρ P σ0 N (.exit id) Q s := fun _ _ _ _ r => wpIn_exit ⟨s, h, r⟩

def Then (next : St → Prop) (Q : Exit → St → Prop) : Exit → St → Prop
 | .normal, s => next s
 | e, s => Q e s

theorem ya {x y : Code} (h : AWpR ρ P σ0 N x (Then (AWpR ρ P σ0 N y Q) Q) s) : AWpR ρ P σ0 N (.seq x y) Q s := by
 intro g0 w0 a w r
 refine wpIn_seq (wpIn_mono (h g0 w0 a w r) ?_)
 rintro e a' w' ⟨s', q, r'⟩
 cases e with
 | normal => exact q g0 w0 a' w' r'
 | _ => exact ⟨s', q, r'⟩

def yu (id : Nat) (Q : Exit → St → Prop) : Exit → St → Prop
 | .exit id', s => if id' = id then Q .normal s else Q (.exit id') s
 | e, s => Q e s

theorem yh {id : Nat} {c : Code} (h : AWpR ρ P σ0 N c (yu id Q) s) : AWpR ρ P σ0 N (.block id c) Q s := by
 intro g0 w0 a w r
 refine wpIn_block (wpIn_mono (h g0 w0 a w r) ?_)
 rintro e a' w' ⟨s', q, r'⟩
 cases e with
 | exit id' =>
  simp only [yu, Exit.inBlock] at q ⊢
  split
  ·rw [if_pos ‹_›] at q; exact ⟨s', q, r'⟩
  ·rw [if_neg ‹_›] at q; exact ⟨s', q, r'⟩
 | _ => exact ⟨s', q, r'⟩

end rules
end Go.Aw

namespace Go.Aw
open Go
inductive TyK where
 | int (k : IntKind)
 | bool
 | str
 | slice (e : TypeId)
 | map (k v : TypeId)
 | ptr (e : TypeId)
 | struct
 | iface
 | func
 | array (n : Nat) (e : TypeId)
 | tuple
 deriving DecidableEq

inductive KA where
 | int (k : IntKind)
 | str
 | bool

inductive KS where
 | one (a : KA)
 | many (l : List KA)

def KA.descIs : KA → TypeDesc → Bool
 | .int k, .int j => k == j
 | .str, .string => true
 | .bool, .bool => true
 | _, _ => false

def YF (P : Program) : Nat → List Field → List KA → Bool
 | _, [], [] => true
 | i, f :: fs, a :: l => (f.name != "_") && (f.offset == i) && (match P.underlying f.type with | some d => a.descIs d | none => false) && YF P (i + 1) fs l
 | _, _, _ => false

def Zt (P : Program) (kt : TypeId) : KS → Bool
 | .one a => match P.underlying kt with
  | some d => a.descIs d
  | none => false
 | .many l => match P.underlying kt with
  | some (.struct fs) => !P.stoodInHeld kt && YF P 0 fs.toList l
  | _ => false

structure TyI where
 size : Nat
 bytes : Nat
 kind : TyK
 fields : List (Nat × Nat)
 zero : List PV
 ks : Option KS := none
 ft : List TypeId := []

def TyK.agg : TyK → Bool
 | .struct => true
 | .array .. => true
 | _ => false

def Z8 : Value → Option PV
 | .int k n => some (.int k n)
 | .bool b => some (.bool b)
 | .string s => some (.str s)
 | .slice none 0 0 => some .nils
 | .pointer none => some .nilp
 | .nilIface => some .nilif
 | .map none => some .nilmap
 | .nilFunc => some .nilfn
 | _ => none

def ya2 : Value → Option PV
 | .agg cs => (cs.toList.mapM Z8).map .agg
 | v => Z8 v

theorem RP.atom {B : Nat} {S : Nat → Nat → Prop} {w : World} {v : Value} {p : PV} (h : Z8 v = some p) : RP B S w p v ∧ v.oneCell' = true := by
 unfold Z8 at h
 split at h <;> simp at h <;> subst h <;> exact ⟨by constructor, rfl⟩

theorem Z0 {α β : Type} (f : α → Option β) : ∀ (l : List α) (r : List β), l.mapM f = some r → r.length = l.length ∧ ∀ (i : Nat) x y, l[i]? = some x → r[i]? = some y → f x = some y
 | [], r, h => by
  simp at h; subst h; simp
 | a :: l, r, h => by
  simp only [List.mapM_cons, Option.bind_eq_bind, Option.bind_eq_some_iff, Option.pure_def, Option.some.injEq] at h
  obtain ⟨b, hb, bs, hbs, rfl⟩ := h
  have ih := Z0 f l bs hbs
  refine ⟨by simp [ih.1], fun i x y hx hy => ?_⟩
  cases i with
  | zero => simp at hx hy; subst hx; subst hy; exact hb
  | succ i => simp at hx hy; exact ih.2 i x y hx hy

theorem RP.const {B : Nat} {S : Nat → Nat → Prop} {w : World} {v : Value} {p : PV} (h : ya2 v = some p) : RP B S w p v := by
 unfold ya2 at h
 split at h
 ·rename_i cs
  simp only [Option.map_eq_some_iff] at h
  obtain ⟨ps, hps, rfl⟩ := h
  obtain ⟨h1, h2⟩ := Z0 _ _ _ hps
  have : cs = cs.toList.toArray := by simp
  rw [this]
  refine .agg h1.symm (fun v hv => ?_) (fun i x v hx hv => (RP.atom (h2 i v x hv hx)).1)
  obtain ⟨i, hi, rfl⟩ := List.getElem_of_mem hv
  have hi' : i < ps.length := by omega
  exact (RP.atom (B := B) (S := S) (w := w) (h2 i _ ps[i] (by simp) (by simp [hi']))).2
 ·exact (RP.atom h).1

structure TyF (P : Program) (t : TypeId) (ti : TyI) : Prop where
 info : ∃ i z, P.info? t = some i ∧ i.size = ti.size ∧ i.bytes = ti.bytes ∧ i.zero = some z ∧ z.cells.toList.mapM Z8 = some ti.zero ∧ z.cells.size = ti.size ∧ (ti.kind.agg = true → ya2 z = some (.agg ti.zero)) ∧ (ti.kind.agg = false → z.cells = #[z] ∧ ∃ p, ti.zero = [p] ∧ Z8 z = some p)
 und : ∃ d, P.underlying t = some d ∧ (match ti.kind with
  | .int k => d = .int k
  | .bool => d = .bool
  | .str => d = .string
  | .slice e => d = .slice e
  | .map k v => d = .map k v
  | .ptr e => d = .pointer e
  | .struct => ∃ fs, d = .struct fs ∧ fs.toList.map (fun f => (f.offset, P.cellsOf f.type)) = ti.fields ∧ ∀ f ∈ fs, P.cellsOf f.type ≠ 0
  | .iface => ∃ ms, d = .interface ms
  | .func => ∃ a b c, d = .func a b c
  | .array n e => d = .array n e
  | .tuple => ∃ l, d = .tuple l)
 ks : ∀ k, ti.ks = some k → Zt P t k = true
 ft : ti.ft ≠ [] → ∃ fs, P.underlying t = some (.struct fs) ∧ fs.toList.map (fun f => f.type) = ti.ft

def yiU (d : TypeDesc) (k : TyK) : Bool :=
 match d, k with
 | .int a, .int b => a == b
 | .bool, .bool => true
 | .string, .str => true
 | .slice a, .slice b => a == b
 | .map a b, .map c e => a == c && b == e
 | .pointer a, .ptr b => a == b
 | .struct _, .struct => true
 | .interface _, .iface => true
 | .func .., .func => true
 | .array a b, .array c e => a == c && b == e
 | .tuple _, .tuple => true
 | _, _ => false

def zY : PV → PV → Bool
 | .int k n, .int j m => k == j && n == m
 | .bool a, .bool b => a == b
 | .str a, .str b => decide (a = b)
 | .nils, .nils => true
 | .nilp, .nilp => true
 | .nilif, .nilif => true
 | .nilmap, .nilmap => true
 | .nilfn, .nilfn => true
 | _, _ => false

theorem ybL {p q : PV} (h : zY p q = true) : p = q := by
 unfold zY at h
 split at h <;> simp_all

def ZA : List PV → List PV → Bool
 | [], [] => true
 | a :: l, b :: r => zY a b && ZA l r
 | _, _ => false

theorem yfd : ∀ {l r : List PV}, ZA l r = true → l = r
 | [], [], _ => rfl
 | a :: l, b :: r, h => by
  simp [ZA] at h
  rw [ybL h.1, yfd h.2]
 | [], _ :: _, h => by simp [ZA] at h
 | _ :: _, [], h => by simp [ZA] at h

def yiN : Value → Bool
 | .agg _ => true
 | _ => false

def yln (P : Program) (t : TypeId) (ti : TyI) : Bool :=
 match P.info? t, P.underlying t with
 | some i, some d =>
  i.size == ti.size && i.bytes == ti.bytes && yiU d ti.kind &&
  (match i.zero with
   | some z => (match z.cells.toList.mapM Z8 with | some ps => ZA ps ti.zero | none => false) && z.cells.size == ti.size && (yiN z == ti.kind.agg)
   | none => false) &&
  (match d with
   | .struct fs => fs.toList.map (fun f => (f.offset, P.cellsOf f.type)) == ti.fields && fs.toList.all fun f => P.cellsOf f.type != 0
   | _ => true) && (match ti.ks with | none => true | some k => Zt P t k) && (ti.ft.isEmpty || match d with | .struct fs => fs.toList.map (fun f => f.type) == ti.ft | _ => false)
 | _, _ => false

theorem yre {P : Program} {t : TypeId} {ti : TyI} (h : yln P t ti = true) : TyF P t ti := by
 unfold yln at h
 split at h
 ·rename_i i d hi hd
  simp only [Bool.and_eq_true, beq_iff_eq] at h
  obtain ⟨⟨⟨⟨⟨⟨h1, h2⟩, h3⟩, h4⟩, h5⟩, h9⟩, h10⟩ := h
  refine ⟨?_, ?_, fun k hk => by rw [hk] at h9; exact h9, fun hne => ?_⟩
  rotate_left 2
  ·simp only [Bool.or_eq_true, List.isEmpty_iff] at h10
   rcases h10 with h10 | h10
   ·exact absurd h10 hne
   ·split at h10
    ·rename_i fs
     exact ⟨fs, hd, by simpa using h10⟩
    ·cases h10
  ·split at h4
   ·rename_i z hz
    simp only [Bool.and_eq_true, beq_iff_eq] at h4
    obtain ⟨⟨h6, h7⟩, h8⟩ := h4
    split at h6
    ·rename_i ps hps
     have := yfd h6
     subst this
     refine ⟨i, z, hi, h1, h2, hz, hps, h7, fun ha => ?_, fun ha => ?_⟩
     ·rw [ha] at h8
      cases z <;> simp [yiN] at h8
      simp only [ya2, Value.cells] at hps ⊢
      rw [hps]; rfl
     ·rw [ha] at h8
      have hc : z.cells = #[z] := by cases z <;> simp [yiN] at h8 <;> rfl
      refine ⟨hc, ?_⟩
      rw [hc] at hps
      simp only [List.mapM_cons, List.mapM_nil, Option.bind_eq_bind, Option.bind_eq_some_iff, Option.pure_def, Option.some.injEq] at hps
      obtain ⟨p, hp, a, rfl, ha'⟩ := hps
      exact ⟨p, ha'.symm, hp⟩
    ·cases h6
   ·cases h4
  ·refine ⟨d, hd, ?_⟩
   have h6 : ∀ fs : Array Field, (∀ (i : Nat) (x : i < fs.size), ¬P.cellsOf fs[i].type = 0) → ∀ f ∈ fs, P.cellsOf f.type ≠ 0 := by
    intro fs hh f hf
    obtain ⟨i, hi, rfl⟩ := Array.getElem_of_mem hf
    exact hh i hi
   cases hk : ti.kind <;> rw [hk] at h3 <;> cases d <;> simp [yiU] at h3 <;> simp at h5 <;> first
    | (exact ⟨_, rfl, h5.1, h6 _ h5.2⟩)
    | simp_all
 ·cases h

abbrev TyT := TypeId → Option TyI
def TyOk (P : Program) (ty : TyT) : Prop := ∀ t ti, ty t = some ti → TyF P t ti

section typed
variable {P : Program} {t : TypeId} {ti : TyI} (h : TyF P t ti) (w : World)
include h
theorem TyF.run_size : (sizeOf t).run P w = .ok ti.size w := by
 obtain ⟨i, z, h1, h2, _⟩ := h.info
 simp [sizeOf, typeInfo, h1, h2]
theorem TyF.run_isAgg : (isAgg t).run P w = .ok ti.kind.agg w := by
 obtain ⟨d, h1, h2⟩ := h.und
 simp only [isAgg, underlying, Sem.run_bind, run_program, Result.andThen_ok, h1]
 cases hk : ti.kind <;> rw [hk] at h2 <;> simp only [TyK.agg] <;> first
  | (subst h2; rfl)
  | (obtain ⟨fs, rfl, _⟩ := h2; rfl)
  | (obtain ⟨a, b, c, rfl⟩ := h2; rfl)
  | (obtain ⟨a, rfl⟩ := h2; rfl)
end typed
end Go.Aw

namespace Go.Aw
open Go
def YU : List (Nat × PV) → Nat → Option PV
 | [], _ => none
 | (n, p) :: r, g => if n = g then some p else YU r g

theorem yeP : ∀ {l : List (Nat × PV)} {g : Nat} {p : PV}, YU l g = some p → (g, p) ∈ l
 | [], _, _, h => by simp [YU] at h
 | (n, q) :: r, g, p, h => by
  simp only [YU] at h
  split at h
  ·cases h; subst_vars; simp
  ·exact List.mem_cons_of_mem _ (yeP h)

def ev (s : St) : Operand → AV
 | .tmp t => get s.T t
 | .const v => match ya2 v with | some p => .pv p | none => .junk
 | .global g => match YU s.σ.gl g with | some p => .pv p | none => .junk
 | .func f => .func (.func f) []

def AV.elems : AV → Option (List PV)
 | .pv (.slice xs) => some xs
 | .pv .nils => some []
 | .full xs => some xs
 | .acc xs _ => some xs
 | _ => none

def yk9 : List AV → Option (List PV)
 | [] => some []
 | .pv p :: r => (yk9 r).map (p :: ·)
 | _ :: _ => none

def yaU (cs : List AV) : AV :=
 match yk9 cs with
 | some ps => .pv (.agg ps)
 | none => .agg cs

def AV.cells : AV → Option (List AV)
 | .pv (.agg ps) => some (ps.map .pv)
 | .agg cs => some cs
 | .tuple _ => none
 | .junk => none
 | x => some [x]

def AV.one : AV → Bool
 | .pv (.agg _) => false
 | .agg _ => false
 | .tuple _ => false
 | .junk => false
 | _ => true

section reads
variable {B : Nat} {S : Nat → Nat → Prop} {w : World} {g : Ghost} {tk : List Tok}
theorem RP.int_inv {k : IntKind} {n : Int} {v : Value} (h : RP B S w (.int k n) v) : v = .int k n := by cases h; rfl
theorem RP.bool_inv {b : Bool} {v : Value} (h : RP B S w (.bool b) v) : v = .bool b := by cases h; rfl
theorem RP.str_inv {s : ByteArray} {v : Value} (h : RP B S w (.str s) v) : v = .string s := by cases h; rfl
theorem RP.nils_inv {v : Value} (h : RP B S w .nils v) : v = .slice none 0 0 := by cases h; rfl
theorem RA.pv_inv {p : PV} {v : Value} (h : RA g tk w (.pv p) v) : RP g.B g.S w p v := by cases h; assumption

theorem RA.elems {x : AV} {v : Value} {xs : List PV} (h : RA g tk w x v) (he : x.elems = some xs) : RP g.B g.S w (.slice xs) v := by
 cases h with
 | pv h =>
  rename_i p
  cases p <;> simp [AV.elems] at he
  ·subst he; rw [h.nils_inv]; exact .empty
  ·subst he; exact h
 | full h => simp [AV.elems] at he; subst he; exact h
 | acc h => simp [AV.elems] at he; subst he; exact h
 | _ => simp [AV.elems] at he

theorem RP.slice_len {xs : List PV} {v : Value} (h : RP B S w (.slice xs) v) : ∃ a c, v = .slice a xs.length c := by
 cases h with
 | empty => exact ⟨_, _, rfl⟩
 | slice => exact ⟨_, _, rfl⟩

theorem z6 {xs : List PV} {sz : Nat} (h : ∀ x, x ∈ xs → x.cells.length = sz) : (flat xs).length = xs.length * sz := by
 induction xs with
 | nil => simp [flat]
 | cons a l ih =>
  have h1 := h a (by simp)
  have h2 := ih (fun x hx => h x (by simp [hx]))
  simp only [flat, List.flatMap_cons, List.length_append, List.length_cons] at h2 ⊢
  rw [h2, h1, Nat.add_mul]; omega

theorem yfq {xs : List PV} {sz : Nat} (h : ∀ x, x ∈ xs → x.cells.length = sz) {i : Nat} {x : PV} (hx : xs[i]? = some x) {j : Nat} (hj : j < sz) : (flat xs)[i * sz + j]? = x.cells[j]? := by
 induction xs generalizing i with
 | nil => simp at hx
 | cons a l ih =>
  have h1 := h a (by simp)
  simp only [flat, List.flatMap_cons]
  cases i with
  | zero =>
   simp at hx; subst hx
   rw [List.getElem?_append_left (by omega)]; simp
  | succ i =>
   simp at hx
   rw [List.getElem?_append_right (by rw [h1, Nat.add_mul]; omega), h1, show (i + 1) * sz + j - sz = i * sz + j by rw [Nat.add_mul]; omega]
   exact ih (fun x hx => h x (by simp [hx])) hx

theorem y5 (b o : Nat) (n : Nat) : (⟨b, o, none⟩ : Addr).add n = ⟨b, o + n, none⟩ := by
 unfold Addr.add; split
 ·subst_vars; simp
 ·rfl

theorem RP.elem {xs : List PV} {v : Value} (h : RP B S w (.slice xs) v) {i : Nat} {x : PV} (hx : xs[i]? = some x) :
  ∃ b off cap, v = .slice (some ⟨b, off, none⟩) xs.length cap ∧ RP B S w (.ptr x.cells) (.pointer (some ⟨b, off + i * x.cells.length, none⟩)) := by
 cases h with
 | empty => simp at hx
 | slice hsz hl hcap hc hr =>
  rename_i b off cap sz vs
  have hm : x ∈ xs := List.mem_of_getElem? hx
  have hs := hsz x hm
  have hi : i < xs.length := (List.getElem?_eq_some_iff.1 hx).1
  refine ⟨b, off, cap, rfl, ?_⟩
  have hb : i * sz + sz ≤ vs.length := by
   rw [hl, ← Nat.succ_mul]; exact Nat.mul_le_mul_right _ hi
  refine .ptr (vs := (vs.drop (i * sz)).take sz) (by simp [List.length_take, hs]; omega) (fun j u hu => ?_) (fun j y u hy hu => ?_)
  ·have hj : j < sz := by
    rcases Nat.lt_or_ge j sz with h | h
    ·exact h
    ·rw [List.getElem?_take, if_neg (by omega)] at hu; cases hu
   rw [List.getElem?_take, if_pos hj, List.getElem?_drop] at hu
   have := hc _ _ hu
   rw [hs, Nat.add_assoc]
   exact this
  ·have hj : j < sz := by
    rw [← hs]; exact (List.getElem?_eq_some_iff.1 hy).1
   rw [List.getElem?_take, if_pos hj, List.getElem?_drop] at hu
   refine hr (i * sz + j) y u ?_ hu
   rw [yfq hsz hx hj]; exact hy

theorem RP.ptr_drop {cs : List PV} {b off : Nat} (h : RP B S w (.ptr cs) (.pointer (some ⟨b, off, none⟩))) (n : Nat) : RP B S w (.ptr (cs.drop n)) (.pointer (some ⟨b, off + n, none⟩)) := by
 cases h with
 | ptr hl hc hr =>
  rename_i vs
  refine .ptr (vs := vs.drop n) (by simp [hl]) (fun j u hu => ?_) (fun j y u hy hu => ?_)
  ·rw [List.getElem?_drop] at hu
   have := hc _ _ hu
   rw [Nat.add_assoc]; exact this
  ·rw [List.getElem?_drop] at hy hu
   exact hr _ _ _ hy hu

theorem RP.ptr_inv {cs : List PV} {v : Value} (h : RP B S w (.ptr cs) v) : ∃ b off, v = .pointer (some ⟨b, off, none⟩) := by
 cases h; exact ⟨_, _, rfl⟩

theorem RP.ptr_cells {cs : List PV} {b off : Nat} (h : RP B S w (.ptr cs) (.pointer (some ⟨b, off, none⟩))) :
  ∃ vs : List Value, vs.length = cs.length ∧ (∀ (i : Nat) v, vs[i]? = some v → w.cell? ((⟨b, off, none⟩ : Addr).add i) = some v ∧ v.oneCell' = true) ∧ ∀ (i : Nat) x v, cs[i]? = some x → vs[i]? = some v → RP B S w x v := by
 cases h with
 | ptr hl hc hr =>
  rename_i vs
  exact ⟨vs, hl, fun i v hv => by rw [y5]; exact (hc i v hv).2, hr⟩

theorem RA.allPV : ∀ {cs : List AV} {ps : List PV}, Aw.yk9 cs = some ps → cs = ps.map .pv
 | [], ps, h => by simp [Aw.yk9] at h; subst h; rfl
 | x :: r, ps, h => by
  cases x <;> simp [Aw.yk9] at h
  obtain ⟨qs, hq, rfl⟩ := h
  rw [RA.allPV hq]; rfl

theorem RA.mkAgg {cs : List AV} {v : Value} (h : RA g tk w (.agg cs) v) : RA g tk w (Aw.yaU cs) v := by
 unfold Aw.yaU
 split
 ·rename_i ps hp
  have := RA.allPV hp
  subst this
  cases h with
  | agg hl h1 hr =>
   refine .pv (.agg (by simpa using hl) h1 (fun i x v hx hv => ?_))
   exact (hr i (.pv x) v (by simp [hx]) hv).pv_inv
 ·exact h

theorem RP.one {p : PV} {v : Value} (h : RP B S w p v) (hp : ∀ cs, p ≠ .agg cs) : v.oneCell' = true := by
 cases h <;> first
  | rfl
  | exact absurd rfl (hp _)

theorem RA.one {x : AV} {v : Value} (h : RA g tk w x v) (hx : x.one = true) : v.oneCell' = true := by
 cases h with
 | pv h => exact h.one (fun cs e => by subst e; simp [AV.one] at hx)
 | full => rfl
 | acc h => exact h.one (fun cs e => by cases e)
 | ptr => rfl
 | lptr => rfl
 | map => rfl
 | func => rfl
 | scr => rfl
 | scrnil => rfl
 | sl => rfl
 | ifc => rfl
 | vs => rfl
 | vp => rfl
 | _ => simp [AV.one] at hx

theorem RA.cells {x : AV} {v : Value} {cs : List AV} (h : RA g tk w x v) (hc : x.cells = some cs) :
  ∃ vs : List Value, v.cells = vs.toArray ∧ vs.length = cs.length ∧ (∀ u, u ∈ vs → u.oneCell' = true) ∧ ∀ (i : Nat) y u, cs[i]? = some y → vs[i]? = some u → RA g tk w y u := by
 have single : x.one = true → x.cells = some [x] → ∃ vs : List Value, v.cells = vs.toArray ∧ vs.length = cs.length ∧ (∀ u, u ∈ vs → u.oneCell' = true) ∧ ∀ (i : Nat) y u, cs[i]? = some y → vs[i]? = some u → RA g tk w y u := by
  intro h1 h2
  rw [h2] at hc
  cases hc
  have h3 := h.one h1
  refine ⟨[v], ?_, rfl, by simpa using h3, fun i y u hy hu => ?_⟩
  ·cases v <;> first | rfl | (simp [Value.oneCell'] at h3)
  ·cases i <;> simp at hy hu
   subst hy; subst hu; exact h
 cases hx : x with
 | pv p =>
  subst hx
  by_cases hp : ∃ ps, p = .agg ps
  ·obtain ⟨ps, rfl⟩ := hp
   simp [AV.cells] at hc
   subst hc
   have := h.pv_inv
   cases this with
   | agg hl h1 hr =>
    refine ⟨_, rfl, by simpa using hl, h1, fun i y u hy hu => ?_⟩
    simp only [List.getElem?_map, Option.map_eq_some_iff] at hy
    obtain ⟨z, hz, rfl⟩ := hy
    exact .pv (hr i z u hz hu)
  ·refine single ?_ ?_
   ·cases p <;> first | rfl | exact absurd ⟨_, rfl⟩ hp
   ·cases p <;> first | rfl | exact absurd ⟨_, rfl⟩ hp
 | agg cs' =>
  subst hx
  simp [AV.cells] at hc
  subst hc
  cases h with
  | agg hl h1 hr => exact ⟨_, rfl, hl, h1, hr⟩
 | tuple => subst hx; simp [AV.cells] at hc
 | junk => subst hx; simp [AV.cells] at hc
 | _ => subst hx; exact single rfl rfl
end reads
theorem RelG.ev {g0 : Ghost} {σ0 : Store} {w0 : World} {N : Nat} {g : Ghost} {s : St} {a : Act} {w : World} (r : RelG g0 σ0 w0 N g s a w) (o : Operand) : RA g s.σ.toks w (ev s o) (a.eval o) := by
 cases o with
 | tmp t => exact r.2.2.2.2 t
 | const v =>
  simp only [Aw.ev, Act.eval]
  split
  ·exact .pv (RP.const ‹_›)
  ·exact .junk
 | global n =>
  simp only [Aw.ev, Act.eval]
  split
  ·exact .pv (r.2.1.glob _ _ (yeP ‹_›))
  ·exact .junk
 | func f => exact .func (vs := []) rfl (fun i x v hx => by simp at hx)
end Go.Aw

namespace Go.Aw
open Go
def yfA (op : BinOp) (k : IntKind) (x y : Int) : Option PV :=
 match op with
 | .add => some (.int k (k.wrap (x + y)))
 | .sub => some (.int k (k.wrap (x - y)))
 | .mul => some (.int k (k.wrap (x * y)))
 | .quo => if y = 0 then none else some (.int k (k.wrap (x.tdiv y)))
 | .rem => if y = 0 then none else some (.int k (x.tmod y))
 | .eql => some (.bool (x == y))
 | .neq => some (.bool (x != y))
 | .lss => some (.bool (decide (x < y)))
 | .leq => some (.bool (decide (x ≤ y)))
 | .gtr => some (.bool (decide (x > y)))
 | .geq => some (.bool (decide (x ≥ y)))
 | .and => some (.int k (k.wrap (BitVec.ofInt k.bits x &&& BitVec.ofInt k.bits y).toNat))
 | .or => some (.int k (k.wrap (BitVec.ofInt k.bits x ||| BitVec.ofInt k.bits y).toNat))
 | _ => none

def yfh (op : BinOp) (k : IntKind) (x y : Int) : Option PV :=
 if y < 0 then none else
 match op with
 | .shl => some (.int k (k.wrap (x * 2 ^ min y.toNat k.bits)))
 | .shr => some (.int k (x.fdiv (2 ^ min y.toNat k.bits)))
 | _ => none

def ZN : List PV → Option (List Int)
 | [] => some []
 | .int .u8 n :: r => (ZN r).map (n :: ·)
 | _ => none
def ycy (ns : List Int) : ByteArray := ns.foldl (fun r n => r.push (UInt8.ofNat n.toNat)) ByteArray.empty
def yac (ty : TyT) (e : TypeId) (xs : List PV) : Option AV :=
 match ty e with
 | some te => if te.kind = .int .u8 then (ZN xs).map fun ns => .pv (.str (ycy ns)) else none
 | none => none

def yfV (op : BinOp) (x y : ByteArray) : Option PV :=
 match op with
 | .eql => some (.bool (decide (x = y)))
 | .neq => some (.bool (!(decide (x = y))))
 | .add => if x.size + y.size ≤ 9223372036854775807 then some (.str (x ++ y)) else none
 | .lss => some (.bool (Op.bytesLess x.toList y.toList))
 | .leq => some (.bool (Op.bytesLess x.toList y.toList || (x.toList == y.toList)))
 | .gtr => some (.bool (!(Op.bytesLess x.toList y.toList || (x.toList == y.toList))))
 | .geq => some (.bool (!(Op.bytesLess x.toList y.toList)))
 | _ => none

def AV.isNil : AV → Option Bool
 | .pv .nils => some true
 | .pv (.slice (_ :: _)) => some false
 | .full (_ :: _) => some false
 | .acc (_ :: _) _ => some false
 | _ => none

def yhZ (ty : TyT) (op : BinOp) (t : TypeId) (x y : AV) : Option AV :=
 match x, y with
 | .pv (.int k a), .pv (.int j b) =>
  match op with
  | .shl | .shr => (yfh op k a b).map .pv
  | _ => if k = j then (yfA op k a b).map .pv else none
 | .pv (.str a), .pv (.str b) => (yfV op a b).map .pv
 | .pv (.bool a), .pv (.bool b) =>
  match ty t with
  | some ti => if ti.kind = .bool then (match op with | .eql => some (.pv (.bool (a == b))) | .neq => some (.pv (.bool (!(a == b)))) | _ => none) else none
  | none => none
 | x, .pv .nils =>
  match ty t, x.isNil with
  | some ti, some b =>
   match ti.kind with
   | .slice _ => (match op with | .eql => some (.pv (.bool b)) | .neq => some (.pv (.bool (!b))) | _ => none)
   | _ => none
  | _, _ => none
 | _, _ => none

def ygj (ty : TyT) (op : BinOp) (t : TypeId) (b : Bool) : Option AV :=
 match ty t with
 | some ti => if ti.kind = .iface then (match op with | .eql => some (.pv (.bool b)) | .neq => some (.pv (.bool (!b))) | _ => none) else none
 | none => none
def ygc : Operand → Bool
 | .const _ => true
 | _ => false
def ygl (ty : TyT) (op : BinOp) (t : TypeId) (c : Bool) (x y : AV) : Option AV :=
 match x, y with
 | .pv .nilif, .pv .nilif => if c = true then ygj ty op t true else none
 | .pv (.iface _ _), .pv .nilif => ygj ty op t false
 | x, y => yhZ ty op t x y

def yd0 (n : Nat) : AV → Option AV
 | .pv (.ptr ps) => some (.pv (.ptr (ps.drop n)))
 | .ptr o a => some (.ptr o (a + n))
 | .lptr i a => some (.lptr i (a + n))
 | .vp cs => some (.vp (cs.drop n))
 | _ => none

def zb (agg : Bool) (n : Nat) (cs : List AV) : Option AV :=
 if agg then (if n ≤ cs.length then some (yaU (cs.take n)) else none) else cs[0]?

def Yi (s : St) (ti : TyI) : AV → Option AV
 | .pv (.ptr ps) => if ti.kind.agg then (if ti.size ≤ ps.length then some (.pv (.agg (ps.take ti.size))) else none) else (ps[0]?).map .pv
 | .lptr i a => (s.L[i]?).bind fun cs => zb ti.kind.agg ti.size (cs.drop a)
 | .ptr o a => match s.σ.objs[o]? with
  | some (.box cs) => zb ti.kind.agg ti.size (cs.drop a)
  | some (.row _ _ _ xs) => zb ti.kind.agg ti.size (((flat xs).map .pv).drop a)
  | some (.arr cs) => zb ti.kind.agg ti.size (cs.drop a)
  | _ => none
 | .vp cs => zb ti.kind.agg ti.size cs
 | _ => none

def Y6 (s : ByteArray) (i : Int) : Int := ((s.data[i.toNat]?).getD 0).toNat

def y4 (sz : Nat) (xs : List PV) : Bool := xs.all fun x => x.cells.length == sz

def intOf? : AV → Option Int
 | .pv (.int _ n) => some n
 | _ => none

def yef (ty : TyT) (t : TypeId) (x : AV) (lo hi mx : Option AV) : Option AV :=
 match ty t with
 | none => none
 | some ti =>
  match ti.kind, x with
  | .str, .pv (.str s) =>
   if mx.isNone then
    match (match lo with | none => some 0 | some l => intOf? l), (match hi with | none => some (s.size : Int) | some h => intOf? h) with
    | some l, some h => if 0 ≤ l ∧ l ≤ h ∧ h ≤ s.size then some (.pv (.str (s.extract l.toNat h.toNat))) else none
    | _, _ => none
   else none
  | .slice e, x =>
   match x.elems, ty e with
   | some xs, some te =>
    match lo, hi, mx with
    | some l, none, none =>
     match intOf? l with
     | some l => if 0 ≤ l ∧ l ≤ xs.length ∧ y4 te.size xs = true then some (match x with | .full _ => .full (xs.drop l.toNat) | _ => .pv (.slice (xs.drop l.toNat))) else none
     | none => none
    | none, some h, none =>
     match intOf? h with
     | some h => if 0 ≤ h ∧ h ≤ xs.length then some (.pv (.slice (xs.take h.toNat))) else none
     | none => none
    | some l, some h, none =>
     match intOf? l, intOf? h with
     | some l, some h => if 0 ≤ l ∧ l ≤ h ∧ h ≤ xs.length ∧ y4 te.size xs = true then some (.pv (.slice ((xs.take h.toNat).drop l.toNat))) else none
     | _, _ => none
    | none, some h, some m =>
     match intOf? h, intOf? m with
     | some h, some m => if 0 ≤ h ∧ h = m ∧ h ≤ xs.length then some (.full (xs.take h.toNat)) else none
     | _, _ => none
    | _, _, _ => none
   | _, _ => none
  | _, _ => none

def Y7 (fs : Nat → Option (Nat × Nat)) : List AV → List (Nat × AV) → Option (List AV)
 | cs, [] => some cs
 | cs, (i, x) :: r =>
  match fs i, x.cells with
  | some (off, sz), some ds => if ds.length = sz ∧ off + sz ≤ cs.length then Y7 fs (cs.take off ++ ds ++ cs.drop (off + sz)) r else none
  | _, _ => none

def yje (b : Bool) (x y : AV) : AV :=
 match x, y with
 | .pv (.bool p), .pv (.bool q) => .pv (.bool (bif b then p else q))
 | x, y => bif b then x else y

def yhY (ti : TyI) (x : AV) : Option AV :=
 match ti.kind, x with
 | .str, .pv (.str b) => some (.pv (.int .i64 b.size))
 | .slice _, .scr _ n _ => some (.pv (.int .i64 n))
 | .slice _, .sl _ _ n => some (.pv (.int .i64 n))
 | .slice _, .vs _ n _ => some (.pv (.int .i64 n))
 | .slice _, x => (x.elems).map fun xs => .pv (.int .i64 xs.length)
 | _, _ => none

def yhX (x y : AV) : Option AV :=
 match x, y with
 | .pv (.int k a), .pv (.int _ b) => some (.pv (.int k (if b < a then b else a)))
 | _, _ => none

def yh3 (x y : AV) : Option AV :=
 match x, y with
 | .pv (.int k a), .pv (.int _ b) => some (.pv (.int k (if b > a then b else a)))
 | _, _ => none

def yaw (ty : TyT) (b : Builtin) (args : List AV) (tys : List TypeId) : Option AV :=
 match b with
 | .len => match args, tys with
  | [x], [t] => (ty t).bind fun ti => yhY ti x
  | _, _ => none
 | .min => match args with
  | [x, y] => yhX x y
  | _ => none
 | .max => match args with
  | [x, y] => yh3 x y
  | _ => none
 | _ => none

def ycO : AV → Option (List AV)
 | .agg cs => some cs
 | .pv (.agg ps) => some (ps.map .pv)
 | _ => none

def Yg (ty : TyT) (s : St) : Op → Option AV
 | .move x | .assign x => some (ev s x)
 | .pick c x y => match ev s c with
  | .pv (.bool b) => some (yje b (ev s x) (ev s y))
  | _ => none
 | .binOp op t x y _ => ygl ty op t (ygc y) (ev s x) (ev s y)
 | .unOp op _ x => match op, ev s x with
  | .not, .pv (.bool b) => some (.pv (.bool (!b)))
  | .neg, .pv (.int k n) => some (.pv (.int k (k.wrap (0 - n))))
  | _, _ => none
 | .nilCheck x => match ev s x with
  | .pv (.ptr ps) => some (.pv (.ptr ps))
  | .ptr o a => some (.ptr o a)
  | .lptr i a => some (.lptr i a)
  | .vp cs => some (.vp cs)
  | .func (.func f) cs => some (.func (.func f) cs)
  | _ => none
 | .fieldAddr t x f => match ty t with
  | some ti => if ti.kind = .struct then (ti.fields[f]?).bind fun p => yd0 p.1 (ev s x) else none
  | none => none
 | .load t x => match ty t with
  | some ti => Yi s ti (ev s x)
  | none => none
 | .indexAddr t x i => match ty t with
  | some ti =>
   match ti.kind, (ev s x).elems, intOf? (ev s i) with
   | .slice e, some xs, some n =>
    match ty e, xs[n.toNat]? with
    | some te, some y => if 0 ≤ n ∧ y.cells.length = te.size then some (.pv (.ptr y.cells)) else none
    | _, _ => none
   | .slice e, none, some n =>
    match ty e, ev s x with
    | some te, .scr o m _ => if 0 ≤ n ∧ n < m then some (.ptr o (n.toNat * te.size)) else none
    | some te, .sl o off m => if 0 ≤ n ∧ n < m then some (.ptr o (off + n.toNat * te.size)) else none
    | some te, .vs _ m cs => if 0 ≤ n ∧ n < m ∧ n.toNat * te.size < cs.length then some (.vp (cs.drop (n.toNat * te.size))) else none
    | _, _ => none
   | _, _, _ => none
  | none => none
 | .index t x i => match ty t with
  | some ti =>
   match ti.kind, ev s x, intOf? (ev s i) with
   | .str, .pv (.str b), some n => if 0 ≤ n ∧ n < b.size then some (.pv (.int .u8 (Y6 b n))) else none
   | .array m e, x, some n => match ty e, ycO x with
    | some te, some cs => if 0 ≤ n ∧ n < m ∧ n.toNat * te.size + te.size ≤ cs.length then zb te.kind.agg te.size (cs.drop (n.toNat * te.size)) else none
    | _, _ => none
   | _, _, _ => none
  | none => none
 | .slice t x lo hi mx => yef ty t (ev s x) (lo.map (ev s)) (hi.map (ev s)) (mx.map (ev s))
 | .field t x f => match ty t with
  | some ti => match ti.kind, ti.fields[f]?, ti.ft[f]?, ycO (ev s x) with
   | .struct, some p, some tf, some cs => match ty tf with
    | some te => if p.1 + te.size ≤ cs.length then zb te.kind.agg te.size (cs.drop p.1) else none
    | none => none
   | _, _, _, _ => none
  | none => none
 | .extract x i => match ev s x with
  | .tuple vs => vs[i]?
  | _ => none
 | .makeFunc (.func f) first caps => if first.isEmpty then some (.func (.func f) (caps.toList.map (ev s))) else none
 | .build t parts => match ty t with
  | some ti => if ti.kind = .struct then (Y7 (fun i => ti.fields[i]?) (ti.zero.map .pv) (parts.toList.map fun p => (p.1, ev s p.2))).map yaU
   else match ti.kind with
    | .array _ e => match ty e with
     | some te => (Y7 (fun i => some (i * te.size, te.size)) (ti.zero.map .pv) (parts.toList.map fun p => (p.1, ev s p.2))).map yaU
     | none => none
    | _ => none
  | none => none
 | .convert a b x => match ty a, ty b with
  | some ta, some tb =>
   match ta.kind, tb.kind, ev s x with
   | .int _, .int k, .pv (.int _ n) => some (.pv (.int k (k.wrap n)))
   | .str, .str, .pv (.str z) => some (.pv (.str z))
   | .slice e, .str, .pv (.slice xs) => yac ty e xs
   | .slice e, .str, .full xs => yac ty e xs
   | _, _, _ => none
  | _, _ => none
 | .call c => match c.callee with
  | .builtin b => yaw ty b (c.args.toList.map (ev s)) c.argTypes.toList
  | _ => none
 | _ => none
end Go.Aw

namespace Go.Aw
open Go
theorem yae (m n : ByteArray) : (m.toList == n.toList) = decide (m = n) := by
  rw [← beq_toListBytes]
  by_cases h : m = n
  · subst h; simp [beq_toListBytes]
  · simp only [h, decide_false]
    rw [beq_toListBytes]
    rw [ByteArray.toList_eq, ByteArray.toList_eq]
    obtain ⟨⟨x⟩⟩ := m
    obtain ⟨⟨y⟩⟩ := n
    simp only [beq_eq_false_iff_ne, ne_eq]
    intro e
    exact h (by rw [show x = y from e])

section sound
variable {P : Program} {ty : TyT} {g0 g : Ghost} {σ0 : Store} {w0 w : World} {N : Nat} {s : St} {a : Act} {o : Oper} {x : AV}
theorem Zl {tk : List Tok} {k : IntKind} {n : Int} : RA g tk w (.pv (.int k n)) (.int k n) := .pv .int
theorem YD {tk : List Tok} {b : Bool} : RA g tk w (.pv (.bool b)) (.bool b) := .pv .bool

theorem yiC {op : BinOp} {k : IntKind} {m n : Int} {p : PV} (h : yfA op k m n = some p) (h1 : op ≠ .shl) (h2 : op ≠ .shr) (t : TypeId) :
    ∃ v, (binOp op t (.int k m) (.int k n)).run P w = .ok v w ∧ RP g.B g.S w p v := by
  unfold yfA at h
  cases op <;> simp at h h1 h2 <;> first
    | (subst h; exact ⟨_, by simp [binOp, Op.intArith, Op.intCmp, Op.intBits]; rfl, by constructor⟩)
    | (obtain ⟨h0, rfl⟩ := h; exact ⟨_, by simp [binOp, Op.intDiv, h0]; rfl, by constructor⟩)

theorem ybY {op : BinOp} {k j : IntKind} {m n : Int} {p : PV} (h : yfh op k m n = some p) (h1 : op = .shl ∨ op = .shr) (t : TypeId) :
    ∃ v, (binOp op t (.int k m) (.int j n)).run P w = .ok v w ∧ RP g.B g.S w p v := by
  unfold yfh at h
  split at h
  · cases h
  · rename_i h0
    rcases h1 with rfl | rfl <;> simp at h <;> subst h <;> exact ⟨_, by simp [binOp, Op.shift, h0]; rfl, by constructor⟩

theorem yiM {op : BinOp} {m n : ByteArray} {p : PV} (h : yfV op m n = some p) (t : TypeId) :
    ∃ v, (binOp op t (.string m) (.string n)).run P w = .ok v w ∧ RP g.B g.S w p v := by
  have hmax : IntKind.i64.max = 9223372036854775807 := by decide
  unfold yfV at h
  have he : (Op.stringOp .eql m n).run P w = .ok (.bool (decide (m = n))) w := by rw [← yae]; rfl
  have hn : (Op.stringOp .neq m n).run P w = .ok (.bool (!decide (m = n))) w := by rw [← yae]; rfl
  by_cases heq : op = .eql
  · subst heq
    simp at h; subst h
    exact ⟨_, he, .bool⟩
  by_cases hne : op = .neq
  · subst hne
    simp at h; subst h
    exact ⟨_, hn, .bool⟩
  cases op <;> simp at h <;> simp at heq hne <;> first
    | (subst h; exact ⟨_, by simp [binOp, Op.stringOp]; rfl, by constructor⟩)
    | (obtain ⟨h0, rfl⟩ := h
       refine ⟨.string (m ++ n), ?_, by constructor⟩
       have h0' : ¬ ((m.size + n.size : Nat) : Int) > IntKind.i64.max := by rw [hmax]; omega
       simp only [binOp, Op.stringOp, if_neg h0', Sem.run_pure])

theorem TyF.slice {t : TypeId} {ti : TyI} {e : TypeId} (h : TyF P t ti) (hk : ti.kind = .slice e) : P.underlying t = some (.slice e) := by
  obtain ⟨d, h1, h2⟩ := h.und
  rw [hk] at h2; rw [h1, h2]
theorem TyF.str {t : TypeId} {ti : TyI} (h : TyF P t ti) (hk : ti.kind = .str) : P.underlying t = some .string := by
  obtain ⟨d, h1, h2⟩ := h.und
  rw [hk] at h2; rw [h1, h2]
theorem TyF.bool {t : TypeId} {ti : TyI} (h : TyF P t ti) (hk : ti.kind = .bool) : P.underlying t = some .bool := by
  obtain ⟨d, h1, h2⟩ := h.und
  rw [hk] at h2; rw [h1, h2]
theorem TyF.int {t : TypeId} {ti : TyI} {k : IntKind} (h : TyF P t ti) (hk : ti.kind = .int k) : P.underlying t = some (.int k) := by
  obtain ⟨d, h1, h2⟩ := h.und
  rw [hk] at h2; rw [h1, h2]
theorem TyF.struct {t : TypeId} {ti : TyI} (h : TyF P t ti) (hk : ti.kind = .struct) :
    ∃ fs : Array Field, P.underlying t = some (.struct fs) ∧ fs.toList.map (fun f => (f.offset, P.cellsOf f.type)) = ti.fields ∧ ∀ f ∈ fs, P.cellsOf f.type ≠ 0 := by
  obtain ⟨d, h1, h2⟩ := h.und
  rw [hk] at h2; obtain ⟨fs, rfl, h3⟩ := h2; exact ⟨fs, h1, h3⟩

theorem RA.nil' {tk : List Tok} {y : AV} {v : Value} {b : Bool} (h : RA g tk w y v) (hb : y.isNil = some b) : ∃ ad n m, v = .slice ad n m ∧ b = ad.isNone := by
  cases h with
  | pv h =>
    rename_i p
    cases p <;> simp [AV.isNil] at hb
    · subst hb; exact ⟨none, 0, 0, h.nils_inv, rfl⟩
    · rename_i xs
      cases xs <;> simp [AV.isNil] at hb
      subst hb
      cases h with
      | slice => exact ⟨_, _, _, rfl, rfl⟩
  | full h =>
    rename_i xs _ _
    cases xs <;> simp [AV.isNil] at hb
    subst hb
    cases h with
    | slice => exact ⟨_, _, _, rfl, rfl⟩
  | @acc xs k v t h ht hn hsz ho =>
    cases xs <;> simp [AV.isNil] at hb
    subst hb
    cases h with
    | slice => exact ⟨_, _, _, rfl, rfl⟩
  | _ => simp [AV.isNil] at hb

theorem Ze {t e : TypeId} (hu : P.underlying t = some (.slice e)) (ad : Option Addr) (n m : Nat) : (Op.equal t (.slice ad n m) (.slice none 0 0)).run P w = .ok ad.isNone w := by
  have hd : Op.maxDepth = 9999 + 1 := rfl
  rw [Op.equal, hd, Op.equalIn, Sem.run_bind, run_underlying hu, Result.andThen_ok]
  cases ad <;> rfl
theorem yfz {t : TypeId} (hu : P.underlying t = some .bool) (m n : Bool) : (Op.equal t (.bool m) (.bool n)).run P w = .ok (m == n) w := by
  have hd : Op.maxDepth = 9999 + 1 := rfl
  rw [Op.equal, hd, Op.equalIn, Sem.run_bind, run_underlying hu, Result.andThen_ok]
  rfl

theorem yjX (op : BinOp) (t : TypeId) (p q : Operand) (k j : IntKind) (m n : Int) : (eqGuard op t p q (.int k m) (.int j n)).run P w = .ok () w := by
  cases op <;> rfl
theorem yjz (op : BinOp) (t : TypeId) (p q : Operand) (m n : ByteArray) : (eqGuard op t p q (.string m) (.string n)).run P w = .ok () w := by
  cases op <;> rfl
theorem ydy (op : BinOp) (t : TypeId) (p q : Operand) (m n : Bool) : (eqGuard op t p q (.bool m) (.bool n)).run P w = .ok () w := by
  cases op <;> rfl
theorem yaQ (op : BinOp) (t : TypeId) (p q : Operand) (a b : Option Addr) (i j c d : Nat) : (eqGuard op t p q (.slice a i c) (.slice b j d)).run P w = .ok () w := by
  cases op <;> rfl

theorem yjW (hty : TyOk P ty) {tk : List Tok} {op : BinOp} {t : TypeId} {y z : AV} {u v : Value} (hy : RA g tk w y u) (hz : RA g tk w z v) (h : yhZ ty op t y z = some x) (p q : Operand) :
    ∃ v', (do eqGuard op t p q u v; binOp op t u v : Sem Value).run P w = .ok v' w ∧ RA g tk w x v' := by
  unfold yhZ at h
  split at h
  · rename_i k m j n
    rw [hy.pv_inv.int_inv, hz.pv_inv.int_inv]
    have hh : ∃ p', x = .pv p' ∧ ∃ v', (binOp op t (.int k m) (.int j n)).run P w = .ok v' w ∧ RP g.B g.S w p' v' := by
      split at h
      · obtain ⟨p', hp, rfl⟩ := Option.map_eq_some_iff.1 h
        exact ⟨p', rfl, ybY hp (.inl rfl) t⟩
      · obtain ⟨p', hp, rfl⟩ := Option.map_eq_some_iff.1 h
        exact ⟨p', rfl, ybY hp (.inr rfl) t⟩
      · rename_i h1 h2
        split at h
        · subst_vars
          obtain ⟨p', hp, rfl⟩ := Option.map_eq_some_iff.1 h
          exact ⟨p', rfl, yiC hp h1 h2 t⟩
        · cases h
    obtain ⟨p', rfl, v', h1, h2⟩ := hh
    exact ⟨v', by simp only [Sem.run_bind, yjX, Result.andThen_ok, h1], .pv h2⟩
  · rename_i m n
    rw [hy.pv_inv.str_inv, hz.pv_inv.str_inv]
    obtain ⟨p', hp, rfl⟩ := Option.map_eq_some_iff.1 h
    obtain ⟨v', h1, h2⟩ := yiM (P := P) (g := g) (w := w) hp t
    exact ⟨v', by simp only [Sem.run_bind, yjz, Result.andThen_ok, h1], .pv h2⟩
  · rename_i m n
    rw [hy.pv_inv.bool_inv, hz.pv_inv.bool_inv]
    split at h
    · rename_i ti hti
      split at h
      · have hu := (hty _ _ hti).bool ‹_›
        split at h
        · cases h
          exact ⟨.bool (m == n), by simp only [Sem.run_bind, ydy, Result.andThen_ok, binOp, yfz hu, Sem.run_pure], YD⟩
        · cases h
          exact ⟨.bool (!(m == n)), by simp only [Sem.run_bind, ydy, Result.andThen_ok, binOp, yfz hu, Sem.run_pure], YD⟩
        · cases h
      · cases h
    · cases h
  · rw [hz.pv_inv.nils_inv]
    split at h
    · rename_i ti b hti hb
      obtain ⟨ad, n, m, rfl, rfl⟩ := hy.nil' hb
      split at h
      · rename_i e hk
        have hu := (hty _ _ hti).slice hk
        split at h
        · cases h
          exact ⟨.bool ad.isNone, by simp only [Sem.run_bind, yaQ, Result.andThen_ok, binOp, Ze hu, Sem.run_pure], YD⟩
        · cases h
          exact ⟨.bool (!ad.isNone), by simp only [Sem.run_bind, yaQ, Result.andThen_ok, binOp, Ze hu, Sem.run_pure], YD⟩
        · cases h
      · cases h
    · cases h
  · cases h

theorem TyF.iface {t : TypeId} {ti : TyI} (h : TyF P t ti) (hk : ti.kind = .iface) : ∃ ms, P.underlying t = some (.interface ms) := by
  obtain ⟨d, h1, h2⟩ := h.und
  rw [hk] at h2
  cases d <;> simp [yiU] at h2
  exact ⟨_, h1⟩
theorem yeD {t : TypeId} {ms : Array (String × TypeId)} (hu : P.underlying t = some (.interface ms)) : (Op.equal t .nilIface .nilIface).run P w = .ok true w := by
  have hd : Op.maxDepth = 9999 + 1 := rfl
  rw [Op.equal, hd, Op.equalIn, Sem.run_bind, run_underlying hu, Result.andThen_ok]
  rfl
theorem ybz {t : TypeId} {ms : Array (String × TypeId)} (hu : P.underlying t = some (.interface ms)) (u : TypeId) (v : Value) : (Op.equal t (.iface u v) .nilIface).run P w = .ok false w := by
  have hd : Op.maxDepth = 9999 + 1 := rfl
  rw [Op.equal, hd, Op.equalIn, Sem.run_bind, run_underlying hu, Result.andThen_ok]
  rfl
theorem yin (hty : TyOk P ty) {tk : List Tok} {op : BinOp} {t : TypeId} {y z : AV} {u v : Value} (hy : RA g tk w y u) (hz : RA g tk w z v) (p q : Operand) (h : ygl ty op t (ygc q) y z = some x) :
    ∃ v', (do eqGuard op t p q u v; binOp op t u v : Sem Value).run P w = .ok v' w ∧ RA g tk w x v' := by
  unfold ygl at h
  split at h
  · split at h
    · rename_i hc
      have e1 : u = .nilIface := by cases hy with | pv h => cases h; rfl
      have e2 : v = .nilIface := by cases hz with | pv h => cases h; rfl
      subst e1 e2
      have hq : ∃ k, q = .const k := by cases q <;> simp [ygc] at hc; exact ⟨_, rfl⟩
      obtain ⟨k, rfl⟩ := hq
      have hg : (eqGuard op t p (.const k) .nilIface .nilIface).run P w = .ok () w := by cases op <;> simp [eqGuard]
      unfold ygj at h
      split at h
      · rename_i ti hti
        split at h
        · obtain ⟨ms, hu⟩ := (hty _ _ hti).iface ‹_›
          split at h
          · cases h
            exact ⟨.bool true, by simp only [Sem.run_bind, hg, Result.andThen_ok, binOp, yeD hu, Sem.run_pure], YD⟩
          · cases h
            exact ⟨.bool (!true), by simp only [Sem.run_bind, hg, Result.andThen_ok, binOp, yeD hu, Sem.run_pure], YD⟩
          · cases h
        · cases h
      · cases h
    · cases h
  · have e1 : ∃ a b, u = .iface a b := by cases hy with | pv h => cases h; exact ⟨_, _, rfl⟩
    have e2 : v = .nilIface := by cases hz with | pv h => cases h; rfl
    obtain ⟨a, b, rfl⟩ := e1
    subst e2
    have hg : (eqGuard op t p q (.iface a b) .nilIface).run P w = .ok () w := by cases op <;> simp [eqGuard]
    unfold ygj at h
    split at h
    · rename_i ti hti
      split at h
      · obtain ⟨ms, hu⟩ := (hty _ _ hti).iface ‹_›
        split at h
        · cases h
          exact ⟨.bool false, by simp only [Sem.run_bind, hg, Result.andThen_ok, binOp, ybz hu, Sem.run_pure], YD⟩
        · cases h
          exact ⟨.bool (!false), by simp only [Sem.run_bind, hg, Result.andThen_ok, binOp, ybz hu, Sem.run_pure], YD⟩
        · cases h
      · cases h
    · cases h
  · exact yjW hty hy hz h p q

theorem yiR {tk : List Tok} {y : AV} {v : Value} {n : Nat} (h : RA g tk w y v) (hx : yd0 n y = some x) :
    ∃ b off, v = .pointer (some ⟨b, off, none⟩) ∧ RA g tk w x (.pointer (some ⟨b, off + n, none⟩)) := by
  unfold yd0 at hx
  split at hx
  · cases hx
    obtain ⟨b, off, rfl⟩ := h.pv_inv.ptr_inv
    exact ⟨b, off, rfl, .pv (h.pv_inv.ptr_drop n)⟩
  · cases hx
    cases h with
    | ptr h => exact ⟨_, _, rfl, .ptr h⟩
  · cases hx
    cases h with
    | lptr h => exact ⟨_, _, rfl, .lptr h⟩
  · cases hx
    cases h with
    | vp hl hc hr =>
      rename_i vs
      refine ⟨_, _, rfl, .vp (vs := vs.drop n) (by simp [hl]) (fun j u hu => ?_) (fun j y u hy hu => ?_)⟩
      · rw [List.getElem?_drop] at hu
        have := hc _ _ hu
        rw [Nat.add_assoc]; exact this
      · rw [List.getElem?_drop] at hy hu
        exact hr _ _ _ hy hu
  · cases hx

theorem yhQ (hty : TyOk P ty) {tk : List Tok} {t : TypeId} {ti : TyI} {f : Nat} {p : Nat × Nat} {y : AV} {v : Value} (hti : ty t = some ti) (hk : ti.kind = .struct) (hf : ti.fields[f]? = some p)
    (h : RA g tk w y v) (hx : yd0 p.1 y = some x) : ∃ v', (Instr.fieldAt t v f).run P w = .ok v' w ∧ RA g tk w x v' := by
  obtain ⟨fs, h1, h2, h3⟩ := (hty _ _ hti).struct hk
  obtain ⟨b, off, rfl, h4⟩ := yiR h hx
  rw [← h2] at hf
  simp only [List.getElem?_map, Option.map_eq_some_iff] at hf
  obtain ⟨fd, h5, rfl⟩ := hf
  have h5' : fs[f]? = some fd := by simpa using h5
  have hm : fd ∈ fs := Array.mem_of_getElem? h5'
  have h6 := h3 fd hm
  refine ⟨_, ?_, h4⟩
  have h7 : ∃ i, P.info? fd.type = some i ∧ i.size ≠ 0 := by
    unfold Program.cellsOf at h6
    cases hi : P.info? fd.type with
    | none => simp [hi] at h6
    | some i => exact ⟨i, rfl, by simpa [hi] using h6⟩
  obtain ⟨i, h8, h9⟩ := h7
  simp [Instr.fieldAt, run_underlying h1, h5', Instr.sureAddr, fieldPlace, sizeOf, typeInfo, h8, h9, y5]

theorem ybJ (hty : TyOk P ty) {t : TypeId} {ti : TyI} (hti : ty t = some ti) (hk : ti.kind.agg = true) {b off : Nat} {vs : List Value} (hl : vs.length = ti.size)
    (hc : ∀ (i : Nat) v, vs[i]? = some v → w.cell? ((⟨b, off, none⟩ : Addr).add i) = some v) : (loadVar t ⟨b, off, none⟩).run P w = .ok (.agg vs.toArray) w := by
  have h := hty _ _ hti
  simp only [loadVar, Sem.run_bind, h.run_isAgg, Result.andThen_ok, hk, if_true, h.run_size]
  rw [← hl, run_loadCells_list w _ vs hc]
  rfl

theorem ybO (hty : TyOk P ty) {t : TypeId} {ti : TyI} (hti : ty t = some ti) (hk : ti.kind.agg = false) {b off : Nat} {v : Value} (hc : w.cell? ⟨b, off, none⟩ = some v) :
    (loadVar t ⟨b, off, none⟩).run P w = .ok v w := by
  have h := hty _ _ hti
  simp only [loadVar, Sem.run_bind, h.run_isAgg, Result.andThen_ok, hk, Bool.false_eq_true, if_false]
  simp [hc]

theorem Zf (hty : TyOk P ty) {tk : List Tok} {t : TypeId} {ti : TyI} (hti : ty t = some ti) {b off : Nat} {cs : List AV} {vs : List Value} (hl : vs.length = cs.length)
    (h1 : ∀ v, v ∈ vs → v.oneCell' = true) (hr : ∀ (i : Nat) x v, cs[i]? = some x → vs[i]? = some v → RA g tk w x v) (hc : ∀ (i : Nat) v, vs[i]? = some v → w.cell? ⟨b, i, none⟩ = some v)
    (hx : zb ti.kind.agg ti.size (cs.drop off) = some x) : ∃ v', (loadVar t ⟨b, off, none⟩).run P w = .ok v' w ∧ RA g tk w x v' := by
  unfold zb at hx
  split at hx
  · split at hx
    · cases hx
      rename_i hk hn
      rw [List.length_drop] at hn
      refine ⟨.agg ((vs.drop off).take ti.size).toArray, ybJ hty hti hk (by rw [List.length_take, List.length_drop]; omega) (fun i v hv => ?_), RA.mkAgg (.agg (by rw [List.length_take, List.length_take, List.length_drop, List.length_drop]; omega) (fun v hv => h1 v (List.mem_of_mem_drop (List.mem_of_mem_take hv))) (fun i y v hy hv => ?_))⟩
      · rw [y5]
        rw [List.getElem?_take] at hv
        split at hv
        · rw [List.getElem?_drop] at hv
          exact hc _ _ hv
        · cases hv
      · rw [List.getElem?_take] at hy hv
        split at hv
        · rw [if_pos ‹_›, List.getElem?_drop] at hy
          rw [List.getElem?_drop] at hv
          exact hr _ _ _ hy hv
        · cases hv
    · cases hx
  · rename_i hk
    have hk : ti.kind.agg = false := by simpa using hk
    rw [List.getElem?_drop, Nat.add_zero] at hx
    have hlt : off < vs.length := by rw [hl]; exact (List.getElem?_eq_some_iff.1 hx).1
    have hv : vs[off]? = some vs[off] := by simp [hlt]
    exact ⟨vs[off], ybO hty hti hk (hc _ _ hv), hr _ _ _ hx hv⟩

theorem yh9 (hty : TyOk P ty) {tk : List Tok} {t : TypeId} {ti : TyI} (hti : ty t = some ti) {b off : Nat} {cs : List AV} {vs : List Value} (hl : vs.length = cs.length)
    (h1 : ∀ v, v ∈ vs → v.oneCell' = true) (hr : ∀ (i : Nat) x v, cs[i]? = some x → vs[i]? = some v → RA g tk w x v) (hc : ∀ (i : Nat) v, vs[i]? = some v → w.cell? ⟨b, off + i, none⟩ = some v)
    (hx : zb ti.kind.agg ti.size cs = some x) : ∃ v', (loadVar t ⟨b, off, none⟩).run P w = .ok v' w ∧ RA g tk w x v' := by
  unfold zb at hx
  split at hx
  · split at hx
    · cases hx
      rename_i hk hn
      refine ⟨.agg (vs.take ti.size).toArray, ybJ hty hti hk (by rw [List.length_take]; omega) (fun i v hv => ?_), RA.mkAgg (.agg (by rw [List.length_take, List.length_take]; omega) (fun v hv => h1 v (List.mem_of_mem_take hv)) (fun i y v hy hv => ?_))⟩
      · rw [y5]
        rw [List.getElem?_take] at hv
        split at hv
        · exact hc _ _ hv
        · cases hv
      · rw [List.getElem?_take] at hy hv
        split at hv
        · rw [if_pos ‹_›] at hy
          exact hr _ _ _ hy hv
        · cases hv
    · cases hx
  · rename_i hk
    have hk : ti.kind.agg = false := by simpa using hk
    have hlt : 0 < vs.length := by rw [hl]; exact (List.getElem?_eq_some_iff.1 hx).1
    have hv : vs[0]? = some vs[0] := by simp [hlt]
    have := hc _ _ hv
    rw [Nat.add_zero] at this
    exact ⟨vs[0], ybO hty hti hk this, hr _ _ _ hx hv⟩

theorem zg {b : Nat} {c : Array Value} {e : TypeId} {f : Nat × Nat} (h : w.heap[b]? = some (.cells c e f)) (i : Nat) : w.cell? ⟨b, i, none⟩ = c[i]? := by
  simp [World.cell?, h]

theorem ydw (hty : TyOk P ty) (r : RelG g0 σ0 w0 N g s a w) {t : TypeId} {ti : TyI} (hti : ty t = some ti) {y : AV} {v : Value} (h : RA g s.σ.toks w y v) (hx : Yi s ti y = some x) :
    ∃ v', (Instr.loadAt t v).run P w = .ok v' w ∧ RA g s.σ.toks w x v' := by
  unfold Yi at hx
  split at hx
  · rename_i ps
    obtain ⟨b, off, rfl⟩ := h.pv_inv.ptr_inv
    obtain ⟨vs, hl, hc, hr⟩ := h.pv_inv.ptr_cells
    simp only [Instr.loadAt, Instr.sureAddr, Sem.run_bind, Sem.run_pure, Result.andThen_ok]
    split at hx
    · split at hx
      · cases hx
        rename_i hk hn
        refine ⟨.agg (vs.take ti.size).toArray, ybJ hty hti hk (by rw [List.length_take]; omega) (fun i u hu => ?_), .pv (.agg (by rw [List.length_take, List.length_take]; omega) (fun u hu => ?_) (fun i y u hy hu => ?_))⟩
        · rw [List.getElem?_take] at hu
          split at hu
          · exact (hc _ _ hu).1
          · cases hu
        · obtain ⟨i, hi, rfl⟩ := List.getElem_of_mem (List.mem_of_mem_take hu)
          exact (hc i _ (by simp)).2
        · rw [List.getElem?_take] at hy hu
          split at hu
          · rw [if_pos ‹_›] at hy; exact hr _ _ _ hy hu
          · cases hu
      · cases hx
    · rename_i hk
      have hk : ti.kind.agg = false := by simpa using hk
      obtain ⟨p, hp, rfl⟩ := Option.map_eq_some_iff.1 hx
      have hlt : 0 < vs.length := by rw [hl]; exact (List.getElem?_eq_some_iff.1 hp).1
      have hv : vs[0]? = some vs[0] := by simp [hlt]
      have := (hc _ _ hv).1
      rw [y5, Nat.add_zero] at this
      exact ⟨vs[0], ybO hty hti hk this, .pv (hr _ _ _ hp hv)⟩
  · rename_i i ad
    obtain ⟨cs, hcs, hx⟩ := Option.bind_eq_some_iff.1 hx
    cases h with
    | lptr hb =>
      rename_i b
      obtain ⟨vs, e, h1, h2, h3, h4⟩ := r.2.1.priv i cs b hcs hb
      simp only [Instr.loadAt, Instr.sureAddr, Sem.run_bind, Sem.run_pure, Result.andThen_ok]
      exact Zf hty hti h2 h3 h4 (fun i v hv => by rw [zg h1]; simpa using hv) hx
  · rename_i ob ad
    split at hx
    · rename_i cs hcs
      cases h with
      | ptr hb =>
        rename_i b
        obtain ⟨_, vs, e, h1, h2, h3, h4⟩ := r.2.1.objs _ _ b hcs hb
        simp only [Instr.loadAt, Instr.sureAddr, Sem.run_bind, Sem.run_pure, Result.andThen_ok]
        exact Zf hty hti h2 h3 h4 (fun i v hv => by rw [zg h1]; simpa using hv) hx
    · rename_i e0 sz cap xs hcs
      cases h with
      | ptr hb =>
        rename_i b
        obtain ⟨h1, h2, h3, vs, rest, h4, h5, h6, h7, h8⟩ := r.2.1.objs _ _ b hcs hb
        simp only [Instr.loadAt, Instr.sureAddr, Sem.run_bind, Sem.run_pure, Result.andThen_ok]
        refine Zf hty hti (vs := vs) (by rw [List.length_map, z6 h1, h5]) h7 (fun i x v hx hv => ?_) (fun i v hv => ?_) hx
        · rw [List.getElem?_map] at hx
          obtain ⟨p, hp, rfl⟩ := Option.map_eq_some_iff.1 hx
          exact .pv (h8 i p v hp hv)
        · rw [zg h4, List.getElem?_toArray, List.getElem?_append_left (List.getElem?_eq_some_iff.1 hv).1]
          exact hv
    · rename_i cs hcs
      cases h with
      | ptr hb =>
        rename_i b
        obtain ⟨_, vs, rest, e, h1, h2, h3, h4⟩ := r.2.1.objs _ _ b hcs hb
        simp only [Instr.loadAt, Instr.sureAddr, Sem.run_bind, Sem.run_pure, Result.andThen_ok]
        refine Zf hty hti h2 h3 h4 (fun i v hv => ?_) hx
        rw [zg h1, List.getElem?_toArray, List.getElem?_append_left (List.getElem?_eq_some_iff.1 hv).1]
        exact hv
    · cases hx
  · cases h with
    | vp hl hc hr =>
      rename_i vs
      simp only [Instr.loadAt, Instr.sureAddr, Sem.run_bind, Sem.run_pure, Result.andThen_ok]
      exact yh9 hty hti hl (fun v hv => by obtain ⟨i, hi, rfl⟩ := List.getElem_of_mem hv; exact (hc i _ (by simp)).2.2) hr (fun i v hv => (hc i v hv).2.1) hx
  · cases hx
end sound
end Go.Aw

namespace Go.Aw
open Go
section sound
variable {P : Program} {ty : TyT} {g0 g : Ghost} {σ0 : Store} {w0 w : World} {N : Nat} {s : St} {a : Act} {o : Oper} {x : AV} {tk : List Tok}
theorem RP.take {B : Nat} {S : Nat → Nat → Prop} {xs : List PV} {b : Option Addr} {n c : Nat} (h : RP B S w (.slice xs) (.slice b n c)) (m : Nat) (hm : m ≤ xs.length) (c' : Nat) (hc' : m ≤ c') : RP B S w (.slice (xs.take m)) (.slice b m c') := by
 cases h with
 | empty => simp at hm; subst hm; exact .empty
 | slice hsz hl hcap hc hr =>
  rename_i blk off sz vs
  have hl2 : (xs.take m).length = m := by rw [List.length_take]; omega
  have hsz' : ∀ x, x ∈ xs.take m → x.cells.length = sz := fun x hx => hsz x (List.mem_of_mem_take hx)
  have hle : m * sz ≤ vs.length := by rw [hl]; exact Nat.mul_le_mul_right _ hm
  have := RP.slice (B := B) (S := S) (w := w) (xs := xs.take m) (b := blk) (off := off) (cap := c') (vs := vs.take (m * sz)) hsz' (by rw [List.length_take, hl2]; omega) (by omega)
   (fun i v hv => by
    rw [List.getElem?_take] at hv
    split at hv
    ·exact hc _ _ hv
    ·cases hv)
   (fun i x v hx hv => by
    rw [List.getElem?_take] at hv
    split at hv
    ·refine hr i x v ?_ hv
     have : flat xs = flat (xs.take m) ++ flat (xs.drop m) := by
      rw [flat, flat, flat, ← List.flatMap_append, List.take_append_drop]
     rw [this, List.getElem?_append_left]
     ·exact hx
     ·exact (List.getElem?_eq_some_iff.1 hx).1
    ·cases hv)
  rw [hl2] at this
  exact this

theorem RP.drop {B : Nat} {S : Nat → Nat → Prop} {xs : List PV} {b : Option Addr} {n c sz : Nat} (h : RP B S w (.slice xs) (.slice b n c)) (m : Nat) (hm : m ≤ xs.length) (hs : y4 sz xs = true) :
  RP B S w (.slice (xs.drop m)) (.slice (if c = m then b else b.map (·.add (m * sz))) (n - m) (c - m)) := by
 cases h with
 | empty => simp at hm; subst hm; simp; exact .empty
 | slice hsz hl hcap hc hr =>
  rename_i blk off sz' vs
  have hl2 : (xs.drop m).length = xs.length - m := List.length_drop
  rcases Nat.eq_or_lt_of_le hm with he | hlt
  ·have : xs.drop m = [] := List.drop_eq_nil_of_le (by omega)
   rw [this, show xs.length - m = 0 by omega]; exact .empty
  ·have hse : sz' = sz := by
    have hx : xs[0]'(by omega) ∈ xs := List.getElem_mem _
    have h1 := hsz _ hx
    simp only [y4, List.all_eq_true, beq_iff_eq] at hs
    rw [← h1]; exact hs _ hx
   subst hse
   rw [if_neg (by omega), Option.map_some, y5, ← hl2]
   refine RP.slice (vs := vs.drop (m * sz')) (sz := sz') (fun x hx => hsz x (List.mem_of_mem_drop hx)) (by rw [List.length_drop, hl2, hl, Nat.sub_mul]) (by omega) (fun i v hv => ?_) (fun i x v hx hv => ?_)
   ·rw [List.getElem?_drop] at hv
    rw [Nat.add_assoc]; exact hc _ _ hv
   ·rw [List.getElem?_drop] at hv
    refine hr _ x v ?_ hv
    have h1 : flat xs = flat (xs.take m) ++ flat (xs.drop m) := by
     rw [flat, flat, flat, ← List.flatMap_append, List.take_append_drop]
    have h2 : (flat (xs.take m)).length = m * sz' := by
     rw [z6 (fun x hx => hsz x (List.mem_of_mem_take hx)), List.length_take, Nat.min_eq_left hm]
    rw [h1, List.getElem?_append_right (by omega), h2, show m * sz' + i - m * sz' = i by omega]
    exact hx

theorem zT {y : AV} {v : Value} {n : Int} (h : RA g tk w y v) (hy : intOf? y = some n) : ∃ k, v = .int k n := by
 unfold intOf? at hy
 split at hy
 ·cases hy; exact ⟨_, h.pv_inv.int_inv⟩
 ·cases hy


theorem yeu {t e : TypeId} {n : Nat} (hu : P.underlying t = some (.slice e)) (hs : ∀ w, (sizeOf e).run P w = .ok n w) (b : Option Addr) (len cap : Nat) (lo hi mx : Option Value) :
  (Instr.sliceAt t (.slice b len cap) lo hi mx).run P w = ((Instr.sliceBounds true len cap lo hi mx).run P w).andThen fun r w => .ok (.slice (if r.2.2 = r.1 then b else b.map (·.add (r.1 * n))) (r.2.1 - r.1) (r.2.2 - r.1)) w := by
 simp only [Instr.sliceAt, Sem.run_bind, run_underlying hu, Result.andThen_ok, Instr.slice]
 congr 1
 funext r w'
 obtain ⟨l, h, m⟩ := r
 simp [hs]

theorem ygb {t : TypeId} (hu : P.underlying t = some .string) (z : ByteArray) (lo hi : Option Value) :
  (Instr.sliceAt t (.string z) lo hi none).run P w = ((Instr.sliceBounds false z.size z.size lo hi none).run P w).andThen fun r w => .ok (.string (z.extract r.1 r.2.1)) w := by
 simp [Instr.sliceAt, run_underlying hu, Instr.slice]


theorem ydg (is : Bool) (len cap : Nat) (k : IntKind) (l : Int) (h0 : 0 ≤ l) (h1 : l ≤ len) : (Instr.sliceBounds is len cap (some (.int k l)) none none).run P w = .ok (l.toNat, len, cap) w := by
 simp [Instr.sliceBounds, Instr.sliceBound, asIntOf, h0, h1]
theorem yhM (is : Bool) (len cap : Nat) : (Instr.sliceBounds is len cap none none none).run P w = .ok (0, len, cap) w := by
 simp [Instr.sliceBounds]
theorem yde (is : Bool) (len cap : Nat) (k : IntKind) (h : Int) (h0 : 0 ≤ h) (h1 : h ≤ cap) : (Instr.sliceBounds is len cap none (some (.int k h)) none).run P w = .ok (0, h.toNat, cap) w := by
 simp [Instr.sliceBounds, Instr.sliceBound, asIntOf, h0, h1]
theorem ybD (is : Bool) (len cap : Nat) (k j : IntKind) (l h : Int) (h0 : 0 ≤ l) (h1 : l ≤ h) (h2 : h ≤ cap) : (Instr.sliceBounds is len cap (some (.int j l)) (some (.int k h)) none).run P w = .ok (l.toNat, h.toNat, cap) w := by
 have h3 : 0 ≤ h := by omega
 have h4 : l ≤ (h.toNat : Int) := by omega
 simp [Instr.sliceBounds, Instr.sliceBound, asIntOf, h0, h2, h3, h4]
 omega
theorem yfJ (is : Bool) (len cap : Nat) (k j : IntKind) (h : Int) (h0 : 0 ≤ h) (h1 : h ≤ cap) : (Instr.sliceBounds is len cap none (some (.int k h)) (some (.int j h))).run P w = .ok (0, h.toNat, h.toNat) w := by
 have h4 : h ≤ (h.toNat : Int) := by omega
 simp [Instr.sliceBounds, Instr.sliceBound, asIntOf, h0, h1, h4]
 omega

def OptR (g : Ghost) (tk : List Tok) (w : World) : Option AV → Option Value → Prop
 | none, none => True
 | some x, some v => RA g tk w x v
 | _, _ => False

theorem yhC (hty : TyOk P ty) {t : TypeId} {y : AV} {v : Value} {lo hi mx : Option AV} {vlo vhi vmx : Option Value} (hy : RA g tk w y v) (h1 : OptR g tk w lo vlo) (h2 : OptR g tk w hi vhi) (h3 : OptR g tk w mx vmx)
  (h : yef ty t y lo hi mx = some x) : ∃ v', (Instr.sliceAt t v vlo vhi vmx).run P w = .ok v' w ∧ RA g tk w x v' := by
 unfold yef at h
 split at h
 ·cases h
 rename_i ti hti
 split at h
 ·rename_i z hk
  have hu := (hty _ _ hti).str hk
  rw [hy.pv_inv.str_inv]
  split at h
  ·rename_i hm
   cases mx with
   | some _ => simp at hm
   | none =>
   cases vmx with
   | some _ => exact h3.elim
   | none =>
   split at h
   ·rename_i l hh hl hhh
    split at h
    ·rename_i hb
     cases h
     obtain ⟨b1, b2, b3⟩ := hb
     refine ⟨.string (z.extract l.toNat hh.toNat), ?_, .pv .str⟩
     rw [ygb hu]
     cases lo with
     | none =>
      cases vlo with
      | some _ => exact h1.elim
      | none =>
      cases hl
      cases hi with
      | none =>
       cases vhi with
       | some _ => exact h2.elim
       | none =>
       cases hhh
       rw [yhM]; rfl
      | some hi =>
       cases vhi with
       | none => exact h2.elim
       | some vhi =>
       obtain ⟨k, rfl⟩ := zT h2 hhh
       rw [yde _ _ _ _ _ b2 b3]; rfl
     | some lo =>
      cases vlo with
      | none => exact h1.elim
      | some vlo =>
      obtain ⟨k, rfl⟩ := zT h1 hl
      cases hi with
      | none =>
       cases vhi with
       | some _ => exact h2.elim
       | none =>
       cases hhh
       rw [ydg _ _ _ _ _ b1 b2]; rfl
      | some hi =>
       cases vhi with
       | none => exact h2.elim
       | some vhi =>
       obtain ⟨j, rfl⟩ := zT h2 hhh
       rw [ybD _ _ _ _ _ _ _ b1 b2 b3]; rfl
    ·cases h
   ·cases h
  ·cases h
 ·rename_i e hk
  have hu := (hty _ _ hti).slice hk
  split at h
  ·rename_i xs te hxs hte
   have hrp := hy.elems hxs
   obtain ⟨b, c, rfl⟩ := hrp.slice_len
   have hcap : xs.length ≤ c := by
    cases hrp with
    | empty => simp
    | slice _ _ hcap => exact hcap
   have hrun := fun lo hi mx => yeu (P := P) (w := w) hu (fun w => (hty _ _ hte).run_size w) b xs.length c lo hi mx
   split at h
   ·rename_i l
    cases vlo with
    | none => exact h1.elim
    | some vlo =>
    cases vhi with
    | some _ => exact h2.elim
    | none =>
    cases vmx with
    | some _ => exact h3.elim
    | none =>
    split at h
    ·rename_i n hn
     obtain ⟨k, rfl⟩ := zT h1 hn
     split at h
     ·rename_i hb
      obtain ⟨b1, b2, b3⟩ := hb
      cases h
      refine ⟨_, by rw [hrun, ydg _ _ _ _ _ b1 b2]; rfl, ?_⟩
      have hd := hrp.drop n.toNat (by omega) b3
      have hl : (xs.drop n.toNat).length = xs.length - n.toNat := List.length_drop
      split
      ·cases hy with
       | full hf =>
        rename_i ys
        have : ys = xs := by simpa [AV.elems] using hxs
        subst this
        exact .full hd
      ·exact .pv hd
     ·cases h
    ·cases h
   ·rename_i hh
    cases vlo with
    | some _ => exact h1.elim
    | none =>
    cases vhi with
    | none => exact h2.elim
    | some vhi =>
    cases vmx with
    | some _ => exact h3.elim
    | none =>
    split at h
    ·rename_i n hn
     obtain ⟨k, rfl⟩ := zT h2 hn
     split at h
     ·rename_i hb
      obtain ⟨b1, b2⟩ := hb
      cases h
      refine ⟨_, by rw [hrun, yde _ _ _ _ _ b1 (by omega)]; rfl, .pv ?_⟩
      have ha : (if c = 0 then b else b.map (·.add (0 * te.size))) = b := by
       split
       ·rfl
       ·cases b <;> simp [Addr.add]
      simp only [Nat.sub_zero, ha]
      exact hrp.take n.toNat (by omega) c (by omega)
     ·cases h
    ·cases h
   ·rename_i l hh
    cases vlo with
    | none => exact h1.elim
    | some vlo =>
    cases vhi with
    | none => exact h2.elim
    | some vhi =>
    cases vmx with
    | some _ => exact h3.elim
    | none =>
    split at h
    ·rename_i l n hl hn
     obtain ⟨j, rfl⟩ := zT h1 hl
     obtain ⟨k, rfl⟩ := zT h2 hn
     split at h
     ·rename_i hb
      obtain ⟨b1, b2, b3, b4⟩ := hb
      cases h
      refine ⟨_, by rw [hrun, ybD _ _ _ _ _ _ _ b1 b2 (by omega)]; rfl, .pv ?_⟩
      have h5 := hrp.take n.toNat (by omega) c (by omega)
      have h6 : y4 te.size (xs.take n.toNat) = true := by
       simp only [y4, List.all_eq_true] at b4 ⊢
       exact fun x hx => b4 x (List.mem_of_mem_take hx)
      exact h5.drop l.toNat (by rw [List.length_take]; omega) h6
     ·cases h
    ·cases h
   ·rename_i hh m
    cases vlo with
    | some _ => exact h1.elim
    | none =>
    cases vhi with
    | none => exact h2.elim
    | some vhi =>
    cases vmx with
    | none => exact h3.elim
    | some vmx =>
    split at h
    ·rename_i n m hn hm
     obtain ⟨k, rfl⟩ := zT h2 hn
     obtain ⟨j, rfl⟩ := zT h3 hm
     split at h
     ·rename_i hb
      obtain ⟨b1, rfl, b2⟩ := hb
      cases h
      refine ⟨_, by rw [hrun, yfJ _ _ _ _ _ _ b1 (by omega)]; rfl, ?_⟩
      have ha : (if n.toNat = 0 then b else b.map (·.add (0 * te.size))) = b := by
       split
       ·rfl
       ·cases b <;> simp [Addr.add]
      simp only [Nat.sub_zero, ha]
      exact .full (hrp.take n.toNat (by omega) _ (Nat.le_refl _))
     ·cases h
    ·cases h
   ·cases h
  ·cases h
 ·cases h

theorem yhL (hty : TyOk P ty) {t e : TypeId} {ti te : TyI} {y : AV} {v u : Value} {k : IntKind} {n : Int} {xs : List PV} {z : PV} (hti : ty t = some ti) (hk : ti.kind = .slice e) (hte : ty e = some te)
  (hy : RA g tk w y v) (hxs : y.elems = some xs) (hu : u = .int k n) (hz : xs[n.toNat]? = some z) (h0 : 0 ≤ n) (hsz : z.cells.length = te.size) :
  ∃ v', (Instr.indexAt t v u).run P w = .ok v' w ∧ RA g tk w (.pv (.ptr z.cells)) v' := by
 subst hu
 obtain ⟨b, off, cap, rfl, hp⟩ := (hy.elems hxs).elem hz
 have hlt : n.toNat < xs.length := (List.getElem?_eq_some_iff.1 hz).1
 have hlt' : n < (xs.length : Int) := by omega
 refine ⟨_, ?_, .pv hp⟩
 have hs := (hty _ _ hte).run_size w
 simp only [Instr.indexAt, asIntOf, Sem.run_bind, Sem.run_pure, Result.andThen_ok, run_underlying ((hty _ _ hti).slice hk)]
 simp [h0, hlt', hs, y5, hsz, run_underlying ((hty _ _ hti).slice hk)]

theorem ygD (hty : TyOk P ty) {t e : TypeId} {ti te : TyI} {ob m cap : Nat} {v u : Value} {k : IntKind} {n : Int} (hti : ty t = some ti) (hk : ti.kind = .slice e) (hte : ty e = some te)
  (hy : RA g tk w (.scr ob m cap) v) (hu : u = .int k n) (h0 : 0 ≤ n) (hlt : n < m) :
  ∃ v', (Instr.indexAt t v u).run P w = .ok v' w ∧ RA g tk w (.ptr ob (n.toNat * te.size)) v' := by
 subst hu
 have hs := (hty _ _ hte).run_size w
 cases hy with
 | scrnil => omega
 | scr hio hn hc =>
  rename_i b
  refine ⟨.pointer (some ⟨b, n.toNat * te.size, none⟩), ?_, .ptr hio⟩
  simp only [Instr.indexAt, asIntOf, Sem.run_bind, Sem.run_pure, Result.andThen_ok, run_underlying ((hty _ _ hti).slice hk)]
  simp [h0, hlt, hs, y5, run_underlying ((hty _ _ hti).slice hk)]

theorem yhv (hty : TyOk P ty) {t e : TypeId} {ti te : TyI} {ob off m : Nat} {v u : Value} {k : IntKind} {n : Int} (hti : ty t = some ti) (hk : ti.kind = .slice e) (hte : ty e = some te)
  (hy : RA g tk w (.sl ob off m) v) (hu : u = .int k n) (h0 : 0 ≤ n) (hlt : n < m) :
  ∃ v', (Instr.indexAt t v u).run P w = .ok v' w ∧ RA g tk w (.ptr ob (off + n.toNat * te.size)) v' := by
 subst hu
 have hs := (hty _ _ hte).run_size w
 cases hy with
 | sl hio hn =>
  rename_i c b
  refine ⟨.pointer (some ⟨b, off + n.toNat * te.size, none⟩), ?_, .ptr hio⟩
  simp only [Instr.indexAt, asIntOf, Sem.run_bind, Sem.run_pure, Result.andThen_ok, run_underlying ((hty _ _ hti).slice hk)]
  simp [h0, hlt, hs, y5, run_underlying ((hty _ _ hti).slice hk)]

theorem yhT (hty : TyOk P ty) {t e : TypeId} {ti te : TyI} {kd : VK} {m : Nat} {cs : List AV} {v u : Value} {k : IntKind} {n : Int} (hti : ty t = some ti) (hk : ti.kind = .slice e) (hte : ty e = some te)
  (hy : RA g tk w (.vs kd m cs) v) (hu : u = .int k n) (h0 : 0 ≤ n) (hlt : n < m) (hcs : n.toNat * te.size < cs.length) :
  ∃ v', (Instr.indexAt t v u).run P w = .ok v' w ∧ RA g tk w (.vp (cs.drop (n.toNat * te.size))) v' := by
 subst hu
 have hs := (hty _ _ hte).run_size w
 cases hy with
 | vs hl hn hc hr hf2 hk2 =>
  rename_i c a vs
  obtain ⟨b, off, rfl, _⟩ := hc (n.toNat * te.size) (vs[n.toNat * te.size]'(by omega)) (by simp)
  refine ⟨.pointer (some ⟨b, off + n.toNat * te.size, none⟩), ?_, .vp (vs := vs.drop (n.toNat * te.size)) (by simp [hl]) (fun j u hu => ?_) (fun j y u hy hu => ?_)⟩
  ·simp only [Instr.indexAt, asIntOf, Sem.run_bind, Sem.run_pure, Result.andThen_ok, run_underlying ((hty _ _ hti).slice hk)]
   simp [h0, hlt, hs, y5, run_underlying ((hty _ _ hti).slice hk)]
  ·rw [List.getElem?_drop] at hu
   obtain ⟨b', off', e1, h2⟩ := hc _ _ hu
   cases e1
   rw [Nat.add_assoc]; exact h2
  ·rw [List.getElem?_drop] at hy hu
   exact hr _ _ _ hy hu

theorem yj2 (hty : TyOk P ty) {t : TypeId} {ti : TyI} {z : ByteArray} {k : IntKind} {n : Int} (hti : ty t = some ti) (hk : ti.kind = .str) (h0 : 0 ≤ n) (h1 : n < z.size) :
  (Instr.index t (.string z) (.int k n)).run P w = .ok (.int .u8 (Y6 z n)) w := by
 have hlt : n.toNat < z.size := by omega
 have hlt' : n.toNat < z.data.size := hlt
 have : z[n.toNat]? = some z.data[n.toNat] := by
  simp [hlt]; rfl
 have h2 : z.data[n.toNat]? = some z.data[n.toNat] := by simp [hlt']
 simp only [Instr.index, asIntOf, Sem.run_bind, Sem.run_pure, Result.andThen_ok, run_underlying ((hty _ _ hti).str hk), h0, if_true, this, Y6, h2, Option.getD_some]
end sound
end Go.Aw

namespace Go.Aw
open Go
theorem yd4 (off : Nat) : ∀ (vs : List Value) (j : Nat) (cells : Array Value), off + j + vs.length ≤ cells.size →
  ((vs.zipIdx j).foldl (fun (cs : Array Value) p => cs.setIfInBounds (off + p.2) p.1) cells).toList = cells.toList.take (off + j) ++ vs ++ cells.toList.drop (off + j + vs.length)
 | [], j, cells, _ => by simp
 | a :: r, j, cells, h => by
  simp only [List.length_cons] at h
  have ih := yd4 off r (j + 1) (cells.setIfInBounds (off + j) a) (by rw [Array.size_setIfInBounds]; omega)
  simp only [List.zipIdx_cons, List.foldl_cons, ih, Array.toList_setIfInBounds]
  have hl : off + j < cells.toList.length := by simp; omega
  rw [show off + (j + 1) = off + j + 1 by omega, List.take_set, List.drop_set_of_lt (by omega)]
  have h1 : (cells.toList.take (off + j + 1)).set (off + j) a = cells.toList.take (off + j) ++ [a] := by
   rw [List.take_succ_eq_append_getElem hl, List.set_append_right _ _ (by simp; omega)]
   simp [Nat.min_eq_left (Nat.le_of_lt hl)]
   have : min (off + j) cells.size = off + j := by omega
   simp [this]
  rw [h1, show off + j + 1 + r.length = off + j + (a :: r).length by simp; omega]
  simp

section sound
variable {P : Program} {ty : TyT} {g0 g : Ghost} {σ0 : Store} {w0 w : World} {N : Nat} {s : St} {a : Act} {o : Oper} {x : AV} {tk : List Tok}
structure RCells (g : Ghost) (tk : List Tok) (w : World) (cs : List AV) (vs : List Value) : Prop where
 len : vs.length = cs.length
 one : ∀ v, v ∈ vs → v.oneCell' = true
 all : ∀ (i : Nat) x v, cs[i]? = some x → vs[i]? = some v → RA g tk w x v

theorem RCells.append {cs ds : List AV} {vs us : List Value} (h : RCells g tk w cs vs) (k : RCells g tk w ds us) : RCells g tk w (cs ++ ds) (vs ++ us) := by
 refine ⟨by simp [h.len, k.len], fun v hv => ?_, fun i x v hx hv => ?_⟩
 ·rcases List.mem_append.1 hv with hv | hv
  ·exact h.one v hv
  ·exact k.one v hv
 ·by_cases hi : i < cs.length
  ·rw [List.getElem?_append_left hi] at hx
   rw [List.getElem?_append_left (by rw [h.len]; exact hi)] at hv
   exact h.all i x v hx hv
  ·rw [List.getElem?_append_right (by omega)] at hx
   rw [List.getElem?_append_right (by rw [h.len]; omega), h.len] at hv
   exact k.all _ x v hx hv

theorem RCells.take {cs : List AV} {vs : List Value} (h : RCells g tk w cs vs) (n : Nat) : RCells g tk w (cs.take n) (vs.take n) := by
 refine ⟨by simp [h.len], fun v hv => h.one v (List.mem_of_mem_take hv), fun i x v hx hv => ?_⟩
 rw [List.getElem?_take] at hx hv
 split at hx
 ·rw [if_pos ‹_›] at hv; exact h.all _ _ _ hx hv
 ·cases hx

theorem RCells.drop {cs : List AV} {vs : List Value} (h : RCells g tk w cs vs) (n : Nat) : RCells g tk w (cs.drop n) (vs.drop n) := by
 refine ⟨by simp [h.len], fun v hv => h.one v (List.mem_of_mem_drop hv), fun i x v hx hv => ?_⟩
 rw [List.getElem?_drop] at hx hv
 exact h.all _ _ _ hx hv

theorem RA.rcells {y : AV} {v : Value} {cs : List AV} (h : RA g tk w y v) (hc : y.cells = some cs) : ∃ vs, v.cells = vs.toArray ∧ RCells g tk w cs vs := by
 obtain ⟨vs, h1, h2, h3, h4⟩ := h.cells hc
 exact ⟨vs, h1, ⟨h2, h3, h4⟩⟩

theorem Yt : ∀ {vs : List Value} {ps : List PV}, vs.mapM Z8 = some ps → RCells g tk w (ps.map .pv) vs := by
 intro vs ps h
 obtain ⟨h1, h2⟩ := Z0 _ _ _ h
 refine ⟨by simp [h1], fun v hv => ?_, fun i x v hx hv => ?_⟩
 ·obtain ⟨i, hi, rfl⟩ := List.getElem_of_mem hv
  have hi' : i < ps.length := by omega
  exact (RP.atom (B := 0) (S := fun _ _ => False) (w := w) (h2 i _ ps[i] (by simp) (by simp [hi']))).2
 ·simp only [List.getElem?_map, Option.map_eq_some_iff] at hx
  obtain ⟨p, hp, rfl⟩ := hx
  exact .pv (RP.atom (h2 i v p hv hp)).1

theorem yaX (fs : Nat → Option (Nat × Nat)) : ∀ (parts : List (Nat × AV)) (vparts : List (Nat × Value)) (cs : List AV) (vs : List Value) (ds : List AV), RCells g tk w cs vs →
  parts.map (·.1) = vparts.map (·.1) → (∀ (i : Nat) x v, parts[i]? = some x → vparts[i]? = some v → RA g tk w x.2 v.2) → Y7 fs cs parts = some ds →
  ∃ us, Instr.fill fs vs.toArray vparts = some us.toArray ∧ RCells g tk w ds us
 | [], vparts, cs, vs, ds, h, h1, _, h3 => by
  simp [Y7] at h3; subst h3
  cases vparts with
  | nil => exact ⟨vs, rfl, h⟩
  | cons => simp at h1
 | (i, y) :: r, vparts, cs, vs, ds, h, h1, h2, h3 => by
  cases vparts with
  | nil => simp at h1
  | cons vp vr =>
   obtain ⟨i', v⟩ := vp
   simp at h1
   obtain ⟨rfl, h1⟩ := h1
   simp only [Y7] at h3
   split at h3
   ·rename_i off sz es hf hes
    split at h3
    ·rename_i hb
     obtain ⟨us, hus, hru⟩ := (h2 0 _ _ rfl rfl : RA g tk w y v).rcells hes
     have hsz : us.length = sz := by rw [hru.len]; exact hb.1
     have hle : off + us.length ≤ vs.length := by rw [h.len, hsz]; exact hb.2
     have hfold := yd4 off us 0 vs.toArray (by simp; omega)
     simp only [Nat.add_zero] at hfold
     have ih := yaX fs r vr _ (vs.take off ++ us ++ vs.drop (off + sz)) ds (((h.take off).append hru).append (h.drop (off + sz))) h1 (fun j x v hx hv => h2 (j + 1) x v (by simpa using hx) (by simpa using hv)) h3
     obtain ⟨us', h5, h6⟩ := ih
     refine ⟨us', ?_, h6⟩
     simp only [Instr.fill, hf, hus, List.size_toArray]
     rw [if_neg (by simp [hsz]; rw [← hsz]; omega)]
     rw [← h5]
     congr 1
     have : (us.toArray.zipIdx.foldl (fun (cs : Array Value) (x : Value × Nat) => match x with | (c, j) => cs.setIfInBounds (off + j) c) vs.toArray) = ((us.zipIdx 0).foldl (fun (cs : Array Value) p => cs.setIfInBounds (off + p.2) p.1) vs.toArray) := by
      rw [← Array.foldl_toList]
      simp [Array.toList_zipIdx]
     rw [this]
     apply Array.ext'
     rw [hfold, hsz]
    ·cases h3
   ·cases h3
end sound
end Go.Aw

namespace Go.Aw
open Go
theorem ybE {ty : TyT} {e : TypeId} {xs : List PV} {x : AV} (h : yac ty e xs = some x) : ∃ te z, ty e = some te ∧ te.kind = .int .u8 ∧ ZN xs = some z ∧ x = .pv (.str (ycy z)) := by
 unfold yac at h
 split at h
 ·rename_i te hte
  split at h
  ·rename_i hk
   obtain ⟨z, hz, rfl⟩ := Option.map_eq_some_iff.1 h
   exact ⟨te, z, hte, hk, hz, rfl⟩
  ·cases h
 ·cases h
theorem yf5 : ∀ {xs : List PV} {z : List Int}, ZN xs = some z → xs = z.map (.int .u8)
 | [], z, h => by simp [ZN] at h; subst h; rfl
 | .int .u8 n :: r, z, h => by
  simp only [ZN] at h
  obtain ⟨y, hy, rfl⟩ := Option.map_eq_some_iff.1 h
  rw [yf5 hy]; rfl
theorem ydm {B : Nat} {S : Nat → Nat → Prop} {P : Program} {w : World} {src dst e : TypeId} {xs : List PV} {v : Value} {z : List Int} (hs : P.underlying src = some (.slice e)) (he : P.underlying e = some (.int .u8)) (hd : P.underlying dst = some .string)
  (h : RP B S w (.slice xs) v) (hz : ZN xs = some z) : (convert src dst v).run P w = .ok (.string (ycy z)) w := by
 have hx := yf5 hz
 cases h with
 | empty =>
  rename_i a c
  have hz0 : z = [] := by cases z with | nil => rfl | cons _ _ => simp at hx
  subst hz0
  rw [run_convert_bytes_string w src dst e a 0 c hs he hd]
  cases a with
  | none => rfl
  | some a => exact run_bytesToString w a 0 c [] (run_loadCells_list w a [] (fun j v hv => by simp at hv))
 | slice hsz hl hcap hc hr =>
  rename_i b off cap sz vs
  have hfl : flat xs = xs := by
   rw [hx]
   clear hx hz hsz hl hcap hr
   induction z with
   | nil => rfl
   | cons n z ih => simp only [List.map_cons]; show PV.cells _ ++ flat _ = _; rw [ih]; rfl
  have hlen : vs.length = xs.length := by
   cases z with
   | nil => rw [hl, hx]; simp
   | cons n z =>
    have := hsz (.int .u8 n) (by rw [hx]; simp)
    rw [hl, ← this]; simp [PV.cells]
  have hvs : vs = z.map (Value.int .u8) := by
   apply List.ext_getElem?
   intro i
   by_cases hi : i < vs.length
   ·have hzl : i < z.length := by have := congrArg List.length hx; simp at this; omega
    have h1 : xs[i]? = some (.int .u8 z[i]) := (congrArg (·[i]?) hx).trans (by simp [hzl])
    have h2 := hr i _ vs[i] (by rw [hfl]; exact h1) (by simp [hi])
    rw [List.getElem?_eq_getElem hi, h2.int_inv, List.getElem?_map, List.getElem?_eq_getElem hzl]; rfl
   ·have hzl : z.length = xs.length := by have := congrArg List.length hx; simp at this; omega
    rw [List.getElem?_eq_none (by omega), List.getElem?_eq_none (by simp; omega)]
  rw [run_convert_bytes_string w src dst e _ _ cap hs he hd]
  have hll := run_loadCells_list (P := P) w ⟨b, off, none⟩ vs (fun j v hv => by
   have h3 := (hc j v hv).2.1
   unfold Addr.add
   by_cases h0 : j = 0
   ·rw [if_pos h0]; rw [h0] at h3; exact h3
   ·rw [if_neg h0]; exact h3)
  rw [hlen, hvs] at hll
  exact run_bytesToString w ⟨b, off, none⟩ _ cap z hll
section sound
variable {P : Program} {ty : TyT} {g0 g : Ghost} {σ0 : Store} {w0 w : World} {N : Nat} {s : St} {a : Act} {o : Oper} {x : AV} {tk : List Tok}
theorem yer {t : TypeId} (h : P.cellsOf t ≠ 0) : (sizeOf t).run P w = .ok (P.cellsOf t) w := by
 unfold Program.cellsOf at h ⊢
 cases hi : P.info? t with
 | none => simp [hi] at h
 | some i => simp [sizeOf, typeInfo, hi]

theorem yfK : ∀ (fs : List Field), (∀ f ∈ fs, P.cellsOf f.type ≠ 0) →
  (fs.mapM (m := Sem) fun f => do pure (f.offset, ← sizeOf f.type)).run P w = .ok (fs.map fun f => (f.offset, P.cellsOf f.type)) w
 | [], _ => by simp
 | f :: fs, h => by
  simp only [List.mapM_cons, Sem.run_bind, yer (h f (by simp)), Result.andThen_ok, Sem.run_pure, yfK fs (fun f hf => h f (by simp [hf])), List.map_cons]

theorem yjq (hty : TyOk P ty) {t : TypeId} {ti : TyI} (hti : ty t = some ti) (hk : ti.kind = .struct) {parts : List (Nat × AV)} {vparts : List (Nat × Value)} {ds : List AV}
  (h1 : parts.map (·.1) = vparts.map (·.1)) (h2 : ∀ (i : Nat) x v, parts[i]? = some x → vparts[i]? = some v → RA g tk w x.2 v.2) (h3 : Y7 (fun i => ti.fields[i]?) (ti.zero.map .pv) parts = some ds) :
  ∃ v', (Instr.build t vparts.toArray).run P w = .ok v' w ∧ RA g tk w (yaU ds) v' := by
 obtain ⟨fs, h4, h5, h6⟩ := (hty _ _ hti).struct hk
 obtain ⟨i, z, h7, h8, h9, h10, h11, h12, h13⟩ := (hty _ _ hti).info
 have hr : RCells g tk w (ti.zero.map .pv) z.cells.toList := Yt h11
 obtain ⟨us, h14, h15⟩ := yaX (fun i => ti.fields[i]?) parts vparts _ _ ds hr h1 h2 h3
 refine ⟨.agg us.toArray, ?_, RA.mkAgg (.agg h15.len h15.one h15.all)⟩
 have hp : (fs.mapM (m := Sem) fun f => do pure (f.offset, ← sizeOf f.type)).run P w = .ok (fs.map fun f => (f.offset, P.cellsOf f.type)) w := by
  have := yfK (P := P) (w := w) fs.toList (fun f hf => h6 f (by simpa using hf))
  rw [Array.mapM_eq_mapM_toList, Sem.run_map, this, Result.andThen_ok]
  congr 1
  apply Array.ext'
  simp
 have h16 : (fun (i : Nat) => (fs.map fun f => (f.offset, P.cellsOf f.type))[i]?) = fun (i : Nat) => ti.fields[i]? := by
  funext i
  rw [← h5]; simp
 have h17 : z.cells.toList.toArray = z.cells := by simp
 rw [h17] at h14
 simp only [Instr.build, zeroValue, typeInfo, Sem.run_bind, run_program, Result.andThen_ok, h7, Sem.run_pure, h10, run_underlying h4, hp, h16, h14]

theorem TyF.array {t : TypeId} {ti : TyI} {n : Nat} {e : TypeId} (h : TyF P t ti) (hk : ti.kind = .array n e) : P.underlying t = some (.array n e) := by
 obtain ⟨d, h1, h2⟩ := h.und
 rw [hk] at h2; rw [h1, h2]

theorem ygx (hty : TyOk P ty) {t e : TypeId} {ti te : TyI} {n : Nat} (hti : ty t = some ti) (hk : ti.kind = .array n e) (hte : ty e = some te) {parts : List (Nat × AV)} {vparts : List (Nat × Value)} {ds : List AV}
  (h1 : parts.map (·.1) = vparts.map (·.1)) (h2 : ∀ (i : Nat) x v, parts[i]? = some x → vparts[i]? = some v → RA g tk w x.2 v.2) (h3 : Y7 (fun i => some (i * te.size, te.size)) (ti.zero.map .pv) parts = some ds) :
  ∃ v', (Instr.build t vparts.toArray).run P w = .ok v' w ∧ RA g tk w (yaU ds) v' := by
 obtain ⟨i, z, h7, h8, h9, h10, h11, h12, h13⟩ := (hty _ _ hti).info
 have hr : RCells g tk w (ti.zero.map .pv) z.cells.toList := Yt h11
 obtain ⟨us, h14, h15⟩ := yaX (fun i => some (i * te.size, te.size)) parts vparts _ _ ds hr h1 h2 h3
 refine ⟨.agg us.toArray, ?_, RA.mkAgg (.agg h15.len h15.one h15.all)⟩
 have h17 : z.cells.toList.toArray = z.cells := by simp
 rw [h17] at h14
 simp only [Instr.build, zeroValue, typeInfo, Sem.run_bind, run_program, Result.andThen_ok, h7, Sem.run_pure, h10, run_underlying ((hty _ _ hti).array hk), (hty _ _ hte).run_size, h14]

theorem ygY {y : AV} {v : Value} {cs : List AV} (hy : RA g tk w y v) (h : ycO y = some cs) : ∃ vs : List Value, v = .agg vs.toArray ∧ RCells g tk w cs vs := by
 unfold ycO at h
 split at h
 ·cases h
  cases hy with
  | agg hl h1 hr => exact ⟨_, rfl, ⟨hl, h1, hr⟩⟩
 ·cases h
  cases hy with
  | pv hp =>
   cases hp with
   | agg hl h1 hr =>
    refine ⟨_, rfl, ⟨by simpa using hl, h1, fun i x v hx hv => ?_⟩⟩
    simp only [List.getElem?_map, Option.map_eq_some_iff] at hx
    obtain ⟨p, hp, rfl⟩ := hx
    exact .pv (hr i p v hp hv)
 ·cases h

theorem yjD (hty : TyOk P ty) {t tf : TypeId} {ti te : TyI} {f : Nat} {pf : Nat × Nat} (hti : ty t = some ti) (hk : ti.kind = .struct) (hfs : ti.fields[f]? = some pf) (hft : ti.ft[f]? = some tf) (hte : ty tf = some te) {y : AV} {v : Value} {cs : List AV} (hy : RA g tk w y v) (hcs : ycO y = some cs)
  (hb : pf.1 + te.size ≤ cs.length) (h : zb te.kind.agg te.size (cs.drop pf.1) = some x) :
  ∃ v', (Instr.field t v f).run P w = .ok v' w ∧ RA g tk w x v' := by
 obtain ⟨vs, rfl, hl, h1, hr⟩ := ygY hy hcs
 obtain ⟨fs, hu, hfl, _⟩ := (hty _ _ hti).struct hk
 obtain ⟨fs', hu', hfl'⟩ := (hty _ _ hti).ft (by intro e; rw [e] at hft; simp at hft)
 rw [hu] at hu'
 cases hu'
 rw [← hfl, List.getElem?_map] at hfs
 rw [← hfl', List.getElem?_map] at hft
 obtain ⟨fd, hfd, rfl⟩ := Option.map_eq_some_iff.1 hfs
 rw [hfd] at hft
 simp only [Option.map_some, Option.some.injEq] at hft
 subst hft
 have hfd' : fs[f]? = some fd := by simpa using hfd
 simp only [Instr.field, Sem.run_bind, run_underlying hu, Result.andThen_ok, hfd', asAgg, Sem.run_pure, part, (hty _ _ hte).run_isAgg]
 unfold zb at h
 split at h
 ·rename_i hag
  split at h
  ·cases h
   simp only [hag, if_true, Sem.run_bind, (hty _ _ hte).run_size, Result.andThen_ok, Sem.run_pure]
   refine ⟨_, rfl, ?_⟩
   have : (vs.toArray.extract fd.offset (fd.offset + te.size)) = ((vs.drop fd.offset).take te.size).toArray := by
    apply Array.ext'
    simp [List.extract_eq_take_drop]
   rw [this]
   refine RA.mkAgg (.agg (by simp [hl]) (fun u hu => h1 u (List.mem_of_mem_drop (List.mem_of_mem_take hu))) (fun i x u hx hu => ?_))
   rw [List.getElem?_take] at hx hu
   split at hx
   ·rw [if_pos ‹_›] at hu
    rw [List.getElem?_drop] at hx hu
    exact hr _ _ _ hx hu
   ·cases hx
  ·cases h
 ·rename_i hag
  simp only [hag, Bool.false_eq_true, if_false]
  rw [List.getElem?_drop] at h
  simp only [Nat.add_zero] at h
  have hlt : fd.offset < vs.length := by rw [hl]; exact (List.getElem?_eq_some_iff.1 h).1
  refine ⟨vs[fd.offset], ?_, hr _ _ _ h (by simp)⟩
  simp [hlt]

theorem ygF (hty : TyOk P ty) {t e : TypeId} {ti te : TyI} {m : Nat} (hti : ty t = some ti) (hk : ti.kind = .array m e) (hte : ty e = some te) {y : AV} {v : Value} {cs : List AV} (hy : RA g tk w y v) (hcs : ycO y = some cs) {k : IntKind} {n : Int}
  (h0 : 0 ≤ n ∧ n < m ∧ n.toNat * te.size + te.size ≤ cs.length) (h : zb te.kind.agg te.size (cs.drop (n.toNat * te.size)) = some x) :
  ∃ v', (Instr.index t v (.int k n)).run P w = .ok v' w ∧ RA g tk w x v' := by
 obtain ⟨vs, rfl, hl, h1, hr⟩ := ygY hy hcs
 obtain ⟨ha, hb, hc⟩ := h0
 simp only [Instr.index, asIntOf, Sem.run_bind, Sem.run_pure, Result.andThen_ok, run_underlying ((hty _ _ hti).array hk), ha, hb, true_and, if_true, (hty _ _ hte).run_size, part, (hty _ _ hte).run_isAgg]
 unfold zb at h
 split at h
 ·rename_i hag
  split at h
  ·cases h
   simp only [hag, if_true, Sem.run_bind, (hty _ _ hte).run_size, Result.andThen_ok, Sem.run_pure]
   refine ⟨_, rfl, ?_⟩
   have : (vs.toArray.extract (n.toNat * te.size) (n.toNat * te.size + te.size)) = ((vs.drop (n.toNat * te.size)).take te.size).toArray := by
    apply Array.ext'
    simp [List.extract_eq_take_drop]
   rw [this]
   refine RA.mkAgg (.agg (by simp [hl]) (fun u hu => h1 u (List.mem_of_mem_drop (List.mem_of_mem_take hu))) (fun i x u hx hu => ?_))
   rw [List.getElem?_take] at hx hu
   split at hx
   ·rw [if_pos ‹_›] at hu
    rw [List.getElem?_drop] at hx hu
    exact hr _ _ _ hx hu
   ·cases hx
  ·cases h
 ·rename_i hag
  simp only [hag, Bool.false_eq_true, if_false]
  rw [List.getElem?_drop] at h
  simp only [Nat.add_zero] at h
  have hlt : n.toNat * te.size < vs.length := by rw [hl]; exact (List.getElem?_eq_some_iff.1 h).1
  refine ⟨vs[n.toNat * te.size], ?_, hr _ _ _ h (by simp)⟩
  simp [hlt]

theorem yjO (hty : TyOk P ty) {t : TypeId} {ti : TyI} (hti : ty t = some ti) {y : AV} {v : Value} (hy : RA g tk w y v) (h : yhY ti y = some x) (t' : TypeId) :
  ∃ v', (Builtin.len_ #[t] t' #[v]).run P w = .ok v' w ∧ RA g tk w x v' := by
 unfold yhY at h
 split at h
 ·rename_i b hk
  cases h
  refine ⟨.int .i64 b.size, ?_, Zl⟩
  rw [hy.pv_inv.str_inv]
  simp [Builtin.len_, run_underlying ((hty _ _ hti).str hk), goInt]
 ·rename_i e o n cap hk
  cases h
  cases hy
  ·exact ⟨.int .i64 n, by simp [Builtin.len_, run_underlying ((hty _ _ hti).slice hk), goInt], Zl⟩
  ·exact ⟨.int .i64 (0 : Nat), by simp [Builtin.len_, run_underlying ((hty _ _ hti).slice hk), goInt], Zl⟩
 ·rename_i e o off n hk
  cases h
  cases hy
  exact ⟨.int .i64 n, by simp [Builtin.len_, run_underlying ((hty _ _ hti).slice hk), goInt], Zl⟩
 ·rename_i e kd n cs hk
  cases h
  cases hy
  exact ⟨.int .i64 n, by simp [Builtin.len_, run_underlying ((hty _ _ hti).slice hk), goInt], Zl⟩
 ·rename_i e hk _ _ _
  obtain ⟨xs, hxs, rfl⟩ := Option.map_eq_some_iff.1 h
  obtain ⟨b, c, rfl⟩ := (hy.elems hxs).slice_len
  refine ⟨.int .i64 xs.length, ?_, Zl⟩
  simp [Builtin.len_, run_underlying ((hty _ _ hti).slice hk), goInt]
 ·cases h

theorem yjG {y z : AV} {u v : Value} (hy : RA g tk w y u) (hz : RA g tk w z v) (h : yhX y z = some x) (ts : Array TypeId) (t' : TypeId) :
  ∃ v', (Builtin.min_ ts t' #[u, v]).run P w = .ok v' w ∧ RA g tk w x v' := by
 unfold yhX at h
 split at h
 ·cases h
  refine ⟨_, ?_, Zl⟩
  rw [hy.pv_inv.int_inv, hz.pv_inv.int_inv]
  simp [Builtin.min_, Builtin.min2]
 ·cases h

theorem yjs {y z : AV} {u v : Value} (hy : RA g tk w y u) (hz : RA g tk w z v) (h : yh3 y z = some x) (ts : Array TypeId) (t' : TypeId) :
  ∃ v', (Builtin.max_ ts t' #[u, v]).run P w = .ok v' w ∧ RA g tk w x v' := by
 unfold yh3 at h
 split at h
 ·cases h
  refine ⟨_, ?_, Zl⟩
  rw [hy.pv_inv.int_inv, hz.pv_inv.int_inv]
  simp [Builtin.max_, Builtin.max2]
 ·cases h

theorem arr1 {α β : Type} {l : Array α} {f : α → β} {y : β} (h : l.toList.map f = [y]) : ∃ p, l = #[p] ∧ f p = y := by
 obtain ⟨p, hp, h1⟩ := List.map_eq_singleton_iff.1 h
 exact ⟨p, Array.ext' (by simpa using hp), h1⟩

theorem arr2 {α β : Type} {l : Array α} {f : α → β} {y z : β} (h : l.toList.map f = [y, z]) : ∃ p q, l = #[p, q] ∧ f p = y ∧ f q = z := by
 obtain ⟨l⟩ := l
 match l, h with
 | [p, q], h =>
  simp at h
  exact ⟨p, q, rfl, h.1, h.2⟩

theorem yev (hty : TyOk P ty) (r : RelG g0 σ0 w0 N g s a w) {b : Builtin} {args : Array Operand} {tys : Array TypeId} (h : yaw ty b (args.toList.map (Aw.ev s)) tys.toList = some x) (t' : TypeId) (cs : Array Bool) :
  ∃ v, (builtin b tys t' cs (args.map a.eval)).run P w = .ok (.value v) w ∧ RA g s.σ.toks w x v := by
 unfold yaw at h
 cases b <;> simp only at h
 case len =>
  split at h
  ·rename_i y t e1 e2
   obtain ⟨p, rfl, rfl⟩ := arr1 e1
   have : tys = #[t] := Array.ext' (by simpa using e2)
   subst this
   obtain ⟨ti, hti, h⟩ := Option.bind_eq_some_iff.1 h
   obtain ⟨v, h1, h2⟩ := yjO hty hti (r.ev p) h t'
   exact ⟨v, by simp [builtin, h1], h2⟩
  ·cases h
 case min =>
  split at h
  ·rename_i y z e1
   obtain ⟨p, q, rfl, rfl, rfl⟩ := arr2 e1
   obtain ⟨v, h1, h2⟩ := yjG (P := P) (r.ev p) (r.ev q) h tys t'
   exact ⟨v, by simp [builtin, h1], h2⟩
  ·cases h
 case max =>
  split at h
  ·rename_i y z e1
   obtain ⟨p, q, rfl, rfl, rfl⟩ := arr2 e1
   obtain ⟨v, h1, h2⟩ := yjs (P := P) (r.ev p) (r.ev q) h tys t'
   exact ⟨v, by simp [builtin, h1], h2⟩
  ·cases h
 all_goals cases h

theorem RelG.evs (r : RelG g0 σ0 w0 N g s a w) (l : List Operand) : ∀ (i : Nat) x v, (l.map (Aw.ev s))[i]? = some x → (l.map a.eval)[i]? = some v → RA g s.σ.toks w x v := by
 intro i x v hx hv
 simp only [List.getElem?_map, Option.map_eq_some_iff] at hx hv
 obtain ⟨p, hp, rfl⟩ := hx
 obtain ⟨q, hq, rfl⟩ := hv
 rw [hp] at hq; cases hq
 exact r.ev p

theorem RelG.evo (r : RelG g0 σ0 w0 N g s a w) (l : Option Operand) : OptR g s.σ.toks w (l.map (Aw.ev s)) (l.map a.eval) := by
 cases l with
 | none => trivial
 | some o => exact r.ev o

theorem yiI (hty : TyOk P ty) (r : RelG g0 σ0 w0 N g s a w) (h : Yg ty s o.op = some x) :
  ∃ v, (execOp a.eval o).run P w = .ok (.value v) w ∧ RA g s.σ.toks w x v := by
 have key : ∀ (m : Sem Value), (∃ v, m.run P w = .ok v w ∧ RA g s.σ.toks w x v) → ∃ v, (do pure (Next.value (← m)) : Sem Next).run P w = .ok (.value v) w ∧ RA g s.σ.toks w x v := by
  rintro m ⟨v, h1, h2⟩
  exact ⟨v, by simp only [Sem.run_bind, h1, Result.andThen_ok, Sem.run_pure], h2⟩
 obtain ⟨dst, op, type, pos, after, guard⟩ := o
 simp only at h
 unfold Yg at h
 split at h
 ·cases h; exact ⟨_, rfl, r.ev _⟩
 ·cases h; exact ⟨_, rfl, r.ev _⟩
 ·rename_i c y z
  split at h
  ·rename_i b hb
   cases h
   have hc := r.ev c
   rw [hb] at hc
   refine ⟨if b then a.eval y else a.eval z, ?_, ?_⟩
   ·simp only [execOp, hc.pv_inv.bool_inv, asBool, Sem.run_bind, Sem.run_pure, Result.andThen_ok]
   ·have hy := r.ev y
    have hz := r.ev z
    unfold yje
    split
    ·rename_i p q e1 e2
     rw [e1] at hy; rw [e2] at hz
     rw [hy.pv_inv.bool_inv, hz.pv_inv.bool_inv]
     cases b <;> exact YD
    ·cases b <;> assumption
  ·cases h
 ·rename_i bop t y z t'
  exact key _ (yin hty (r.ev y) (r.ev z) y z h)
 ·rename_i uop t y
  have hy := r.ev y
  split at h
  ·rename_i b hb
   cases h
   rw [hb] at hy
   refine key _ ⟨_, ?_, YD⟩
   rw [hy.pv_inv.bool_inv]; rfl
  ·rename_i k n hb
   cases h
   rw [hb] at hy
   refine key _ ⟨_, ?_, Zl⟩
   rw [hy.pv_inv.int_inv]; rfl
  ·cases h
 ·rename_i y
  have hy := r.ev y
  split at h
  ·rename_i ps hb
   cases h
   rw [hb] at hy
   obtain ⟨b, off, he⟩ := hy.pv_inv.ptr_inv
   refine ⟨a.eval y, ?_, hy⟩
   simp only [execOp, he]; rfl
  ·rename_i ob ad hb
   cases h
   rw [hb] at hy
   generalize hv : a.eval y = v at hy
   cases hy with
   | ptr hb => exact ⟨_, by simp only [execOp, hv]; rfl, .ptr hb⟩
  ·rename_i ob ad hb
   cases h
   rw [hb] at hy
   generalize hv : a.eval y = v at hy
   cases hy with
   | lptr hb => exact ⟨_, by simp only [execOp, hv]; rfl, .lptr hb⟩
  ·rename_i cs hb
   cases h
   rw [hb] at hy
   generalize hv : a.eval y = v at hy
   cases hy with
   | vp h1 h2 h3 => exact ⟨_, by simp only [execOp, hv]; rfl, .vp h1 h2 h3⟩
  ·rename_i f cs hb
   cases h
   rw [hb] at hy
   generalize hv : a.eval y = v at hy
   cases hy with
   | func hl hr => exact ⟨_, by simp only [execOp, hv]; rfl, .func hl hr⟩
  ·cases h
 ·rename_i t y f
  split at h
  ·rename_i ti hti
   split at h
   ·rename_i hk
    obtain ⟨p, hp, hx⟩ := Option.bind_eq_some_iff.1 h
    exact key _ (yhQ hty hti hk hp (r.ev y) hx)
   ·cases h
  ·cases h
 ·rename_i t y
  split at h
  ·rename_i ti hti
   exact key _ (ydw hty r hti (r.ev y) h)
  ·cases h
 ·rename_i t y i
  split at h
  ·rename_i ti hti
   split at h
   ·rename_i e xs n hk hxs hn
    obtain ⟨k, hik⟩ := zT (r.ev i) hn
    split at h
    ·rename_i te z hte hz
     split at h
     ·rename_i hb
      cases h
      exact key _ (yhL hty hti hk hte (r.ev y) hxs hik hz hb.1 hb.2)
     ·cases h
    ·cases h
   ·rename_i e n hk _ hn
    obtain ⟨k, hik⟩ := zT (r.ev i) hn
    split at h
    ·rename_i te ob m cap hte hz
     split at h
     ·rename_i hb
      cases h
      exact key _ (ygD hty hti hk hte (by have := r.ev y; rw [hz] at this; exact this) hik hb.1 hb.2)
     ·cases h
    ·rename_i te ob off m hte hz
     split at h
     ·rename_i hb
      cases h
      exact key _ (yhv hty hti hk hte (by have := r.ev y; rw [hz] at this; exact this) hik hb.1 hb.2)
     ·cases h
    ·rename_i te kd m cs hte hz
     split at h
     ·rename_i hb
      cases h
      exact key _ (yhT hty hti hk hte (by have := r.ev y; rw [hz] at this; exact this) hik hb.1 hb.2.1 hb.2.2)
     ·cases h
    ·cases h
   ·cases h
  ·cases h
 ·rename_i t y i
  split at h
  ·rename_i ti hti
   split at h
   ·rename_i b n hk hb hn
    obtain ⟨k, hik⟩ := zT (r.ev i) hn
    have hy := r.ev y
    rw [hb] at hy
    split at h
    ·rename_i hbd
     cases h
     refine key _ ⟨_, ?_, Zl⟩
     rw [hy.pv_inv.str_inv, hik]
     exact yj2 hty hti hk hbd.1 hbd.2
    ·cases h
   ·rename_i m e z n hk hn
    obtain ⟨k, hik⟩ := zT (r.ev i) hn
    split at h
    ·rename_i te cs hte hcs
     split at h
     ·rename_i hb
      refine key _ ?_
      rw [hik]
      exact ygF hty hti hk hte (r.ev y) hcs hb h
     ·cases h
    ·cases h
   ·cases h
  ·cases h
 ·rename_i t y lo hi mx
  exact key _ (yhC hty (r.ev y) (r.evo lo) (r.evo hi) (r.evo mx) h)
 ·rename_i t y f
  split at h
  ·rename_i ti hti
   split at h
   ·rename_i pf tf cs hk hfs hft hcs
    split at h
    ·rename_i te hte
     split at h
     ·rename_i hb
      exact key _ (yjD hty hti hk hfs hft hte (r.ev y) hcs hb h)
     ·cases h
    ·cases h
   ·cases h
  ·cases h
 ·rename_i y i
  have hy := r.ev y
  split at h
  ·rename_i vs hb
   rw [hb] at hy
   generalize hv : a.eval y = v at hy
   cases hy with
   | tuple hl hr =>
    rename_i us
    have hlt : i < us.length := by rw [hl]; exact (List.getElem?_eq_some_iff.1 h).1
    refine key _ ⟨us[i], ?_, hr i _ _ h (by simp)⟩
    rw [hv]
    simp [Instr.extract, hlt]
  ·cases h
 ·rename_i f first caps
  split at h
  ·rename_i he
   cases h
   have : first = #[] := by simpa using he
   subst this
   refine key _ ⟨.func (.func f) #[] (caps.toList.map a.eval).toArray, ?_, .func (by simp) (r.evs caps.toList)⟩
   have : (caps.toList.map a.eval).toArray = caps.map a.eval := Array.ext' (by simp)
   rw [this]; simp [Instr.makeFunc]
  ·cases h
 ·rename_i t parts
  split at h
  ·rename_i ti hti
   split at h
   ·rename_i hk
    obtain ⟨ds, hds, rfl⟩ := Option.map_eq_some_iff.1 h
    obtain ⟨v, h1, h2⟩ := yjq (P := P) (w := w) hty hti hk (vparts := parts.toList.map fun p => (p.1, a.eval p.2)) (by simp) (fun i x v hx hv => by
     simp only [List.getElem?_map, Option.map_eq_some_iff] at hx hv
     obtain ⟨p, hp, rfl⟩ := hx
     obtain ⟨q, hq, rfl⟩ := hv
     rw [hp] at hq; cases hq
     exact r.ev p.2) hds
    refine key _ ⟨v, ?_, h2⟩
    rw [← h1]
    congr 2
    apply Array.ext'
    simp
   ·split at h
    ·rename_i m e hk
     split at h
     ·rename_i te hte
      obtain ⟨ds, hds, rfl⟩ := Option.map_eq_some_iff.1 h
      obtain ⟨v, h1, h2⟩ := ygx (P := P) (w := w) hty hti hk hte (vparts := parts.toList.map fun p => (p.1, a.eval p.2)) (by simp) (fun i x v hx hv => by
       simp only [List.getElem?_map, Option.map_eq_some_iff] at hx hv
       obtain ⟨p, hp, rfl⟩ := hx
       obtain ⟨q, hq, rfl⟩ := hv
       rw [hp] at hq; cases hq
       exact r.ev p.2) hds
      refine key _ ⟨v, ?_, h2⟩
      rw [← h1]
      congr 2
      apply Array.ext'
      simp
     ·cases h
    ·cases h
  ·cases h
 ·rename_i ta tb y
  split at h
  ·rename_i ia ib hia hib
   have hy := r.ev y
   split at h
   ·rename_i k1 k2 k3 n hk1 hk2 hb
    cases h
    rw [hb] at hy
    refine key _ ⟨_, ?_, Zl⟩
    rw [hy.pv_inv.int_inv]
    simp [convert, run_underlying ((hty _ _ hia).int hk1), run_underlying ((hty _ _ hib).int hk2), Conv.intToInt]
   ·rename_i z hk1 hk2 hb
    cases h
    rw [hb] at hy
    refine key _ ⟨.string z, ?_, .pv .str⟩
    rw [hy.pv_inv.str_inv]
    simp [convert, run_underlying ((hty _ _ hia).str hk1), run_underlying ((hty _ _ hib).str hk2)]
   ·rename_i e xs hk1 hk2 hb
    rw [hb] at hy
    obtain ⟨te, z, hte, hke, hz, rfl⟩ := ybE h
    exact key _ ⟨.string (ycy z), ydm ((hty _ _ hia).slice hk1) ((hty _ _ hte).int hke) ((hty _ _ hib).str hk2) hy.pv_inv hz, .pv .str⟩
   ·rename_i e xs hk1 hk2 hb
    rw [hb] at hy
    obtain ⟨te, z, hte, hke, hz, rfl⟩ := ybE h
    refine key _ ⟨.string (ycy z), ?_, .pv .str⟩
    generalize hgv : (a.eval y) = vv at hy ⊢
    cases hy with
    | full hrp => exact ydm ((hty _ _ hia).slice hk1) ((hty _ _ hte).int hke) ((hty _ _ hib).str hk2) hrp hz
   ·cases h
  ·cases h
 ·rename_i c
  obtain ⟨callee, args, tys⟩ := c
  cases callee with
  | builtin b =>
   obtain ⟨v, h1, h2⟩ := yev hty r h type (args.map fun | .const _ => true | _ => false)
   refine ⟨v, ?_, h2⟩
   rw [← h1]
   simp only [execOp, resolve, Sem.run_bind, Sem.run_pure, Result.andThen_ok]
   rfl
  | _ => cases h
 ·cases h
end sound
end Go.Aw

namespace Go.Aw
open Go
section
variable {g g' : Ghost} {σ : Store} {L : List (List AV)} {w w' : World} {tk : List Tok}
theorem RBox.mono {tk' : List Tok} (k : Le g tk w g' tk' w') (hl : ∀ (i b : Nat), g.lam[i]? = some b → g'.lam[i]? = some b) {b : Nat} {cs : List AV} (hb : w'.heap[b]? = w.heap[b]?) (h : RBox g tk w b cs) : RBox g' tk' w' b cs := by
 obtain ⟨vs, e, h1, h2, h3, h4⟩ := h
 exact ⟨vs, e, hb.trans h1, h2, h3, fun i x v hx hv => (h4 i x v hx hv).mono k hl⟩

theorem RMap.mono {tk' : List Tok} (k : Le g tk w g' tk' w') {b : Nat} {ks vs : List PV} (hb : w'.heap[b]? = w.heap[b]?) (h : RMap g w b ks vs) : RMap g' w' b ks vs := by
 obtain ⟨es, c, h1, h2, h3, h4, h5, h6⟩ := h
 refine ⟨es, c, hb.trans h1, h2, h3, fun i x e hx he => ?_, fun i x e hx he => ?_, h6⟩
 ·rw [k.B]; exact (h4 i x e hx he).mono k.keeps
 ·rw [k.B]; exact (h5 i x e hx he).mono k.keeps

theorem RRow.mono {tk' : List Tok} (k : Le g tk w g' tk' w') {b : Nat} {e : TypeId} {sz cap : Nat} {xs : List PV} (hb : w'.heap[b]? = w.heap[b]?) (h : RRow g w b e sz cap xs) : RRow g' w' b e sz cap xs := by
 obtain ⟨h1, h2, h3, us, rest, h4, h5, h6, h7, h8⟩ := h
 refine ⟨h1, h2, h3, us, rest, hb.trans h4, h5, h6, h7, fun i x v hx hv => ?_⟩
 rw [k.B]; exact (h8 i x v hx hv).mono k.keeps

theorem RArr.mono {tk' : List Tok} (k : Le g tk w g' tk' w') (hl : ∀ (i b : Nat), g.lam[i]? = some b → g'.lam[i]? = some b) {b : Nat} {cs : List AV} (hb : w'.heap[b]? = w.heap[b]?) (h : RArr g tk w b cs) : RArr g' tk' w' b cs := by
 obtain ⟨vs, rest, e, h1, h2, h3, h4⟩ := h
 exact ⟨vs, rest, e, hb.trans h1, h2, h3, fun i x v hx hv => (h4 i x v hx hv).mono k hl⟩

theorem RObj.mono {tk' : List Tok} (k : Le g tk w g' tk' w') (hl : ∀ (i b : Nat), g.lam[i]? = some b → g'.lam[i]? = some b) {b : Nat} {o : AObj} (hb : w'.heap[b]? = w.heap[b]?) (h : RObj g tk w b o) : RObj g' tk' w' b o := by
 cases o with
 | box cs => exact ⟨h.1, h.2.mono k hl hb⟩
 | map ks vs => exact RMap.mono k hb h
 | row e sz cap xs => exact RRow.mono k hb h
 | arr cs => exact ⟨h.1, h.2.mono k hl hb⟩
 | loop l st pe T N ps assign body =>
  obtain ⟨h0, fn, tmps, D, h1, h2, h3⟩ := h
  exact ⟨h0, fn, tmps, D, hb.trans h1, h2, fun t => (h3 t).mono k hl⟩

theorem ydK {i b : Nat} (hi : g.io[i]? = some b) : b ∈ g.owned := by
 simp only [Ghost.owned, List.mem_append]; exact .inl (.inl (List.mem_of_getElem? hi))
theorem ykB {i b : Nat} (hi : g.lam[i]? = some b) : b ∈ g.owned := by
 simp only [Ghost.owned, List.mem_append]; exact .inl (.inr (List.mem_of_getElem? hi))
theorem yi6 {i : Nat} {b : TokB} (hi : g.tb[i]? = some (some b)) : b.b ∈ g.owned := by
 simp only [Ghost.owned, List.mem_append]; exact .inr (List.mem_filterMap.2 ⟨_, List.mem_of_getElem? hi, rfl⟩)

theorem Inv.step (h : Inv g σ L w) (hs : w.heap.size ≤ w'.heap.size) (hb : ∀ b, b < w.heap.size → w'.heap[b]? = w.heap[b]?) : Inv g σ L w' ∧ Le g σ.toks w g σ.toks w' := by
 have hk : Keeps g.B g.S g.S w w' := ⟨fun _ _ h => h, fun b o hbo => by
  have : b < w.heap.size := by
   rcases hbo with h1 | h1
   ·have := h.base; omega
   ·exact (h.cells b o h1).2.1
  exact World.cell?_of_block (w := w) (a := ⟨b, o, none⟩) (hb b this), fun b h1 => hb b (by have := h.base; omega)⟩
 have le : Le g σ.toks w g σ.toks w' := ⟨rfl, hk, fun _ _ h => h, fun _ t h => ⟨t, h, rfl, rfl, Nat.le_refl _, fun _ => rfl⟩⟩
 refine ⟨⟨h.lio, h.llam, h.ltb, fun n p hp => (h.glob n p hp).mono hk, h.nodup, fun b hm => ⟨(h.low b hm).1, by have := (h.low b hm).2.1; omega, (h.low b hm).2.2⟩, fun b hb => ⟨by have := (h.kept b hb).1; omega, (h.kept b hb).2⟩, by have := h.base; omega,
  fun b o hS => ⟨(h.cells b o hS).1, by have := (h.cells b o hS).2.1; omega, (h.cells b o hS).2.2⟩, fun o ob b ho hio => ?_, fun i cs b hL hl => ?_, fun k t tb ht htb => ?_⟩, le⟩
 ·exact (h.objs o ob b ho hio).mono le (fun _ _ h => h) (hb b (h.low b (ydK hio)).2.1)
 ·exact (h.priv i cs b hL hl).mono le (fun _ _ h => h) (hb b (h.low b (ykB hl)).2.1)
 ·obtain ⟨cur, h1, h2⟩ := h.toks k t tb ht htb
  exact ⟨cur, (hb _ (h.low _ (yi6 htb)).2.1).trans h1, h2⟩

theorem Inv.alloc (h : Inv g σ L w) (o : Obj) : Inv g σ L (w.alloc o) ∧ Le g σ.toks w g σ.toks (w.alloc o) :=
 h.step (by simp) (fun b hb => Go.RowKit.Below.heap_alloc w o b hb)

theorem Inv.drewN (h : Inv g σ L w) (hw : w'.heap = w.heap) : Inv g σ L w' ∧ Le g σ.toks w g σ.toks w' :=
 h.step (by rw [hw]; exact Nat.le_refl _) (fun b _ => by rw [hw])

structure Fresh (g : Ghost) (w : World) (b : Nat) : Prop where
 low : g.B ≤ b
 lt : b < w.heap.size
 K : ¬ g.K b
 S : ∀ o, ¬ g.S b o
 own : b ∉ g.owned

theorem Inv.fresh (h : Inv g σ L w) (o : Obj) : Fresh g (w.alloc o) w.heap.size :=
 ⟨h.base, by simp, fun hk => by have := (h.kept _ hk).1; omega, fun o hS => by have := (h.cells _ o hS).2.1; omega, fun hm => by have := (h.low _ hm).2.1; omega⟩

theorem yd1 {α : Type} {A C : List α} {b : α} (h : (A ++ C).Nodup) (hb : b ∉ A ++ C) : (A ++ b :: C).Nodup :=
 (List.perm_middle.nodup_iff).2 (List.nodup_cons.2 ⟨hb, h⟩)

theorem getElem?_snoc {α : Type} {l : List α} {x y : α} {i : Nat} (h : (l ++ [x])[i]? = some y) : l[i]? = some y ∨ (i = l.length ∧ y = x) := by
 rcases Nat.lt_trichotomy i l.length with h1 | h1 | h1
 ·rw [List.getElem?_append_left h1] at h; exact .inl h
 ·subst h1; simp at h; exact .inr ⟨rfl, h.symm⟩
 ·rw [List.getElem?_append_right (by omega), show i - l.length = (i - l.length - 1) + 1 by omega] at h
  simp at h

theorem yL {α : Type} {l : List α} {x y : α} {i : Nat} (h : l[i]? = some y) : (l ++ [x])[i]? = some y := by
 rw [List.getElem?_append_left (List.getElem?_eq_some_iff.1 h).1]; exact h

theorem Inv.addLam (h : Inv g σ L w) {b : Nat} (f : Fresh g w b) {cs : List AV} (hb : RBox g σ.toks w b cs) :
  Inv { g with lam := g.lam ++ [b] } σ (L ++ [cs]) w ∧ Le g σ.toks w { g with lam := g.lam ++ [b] } σ.toks w := by
 have le : Le g σ.toks w { g with lam := g.lam ++ [b] } σ.toks w := ⟨rfl, Keeps.refl _ _ _, fun _ _ h => h, fun _ t h => ⟨t, h, rfl, rfl, Nat.le_refl _, fun _ => rfl⟩⟩
 have hl : ∀ (i c : Nat), g.lam[i]? = some c → ({ g with lam := g.lam ++ [b] } : Ghost).lam[i]? = some c := fun i c hi => yL hi
 have hmem : ∀ c, c ∈ ({ g with lam := g.lam ++ [b] } : Ghost).owned → c ∈ g.owned ∨ c = b := by
  intro c hc
  simp only [Ghost.owned, List.mem_append, List.mem_singleton] at hc ⊢
  rcases hc with (hc | hc | hc) | hc
  ·exact .inl (.inl (.inl hc))
  ·exact .inl (.inl (.inr hc))
  ·exact .inr hc
  ·exact .inl (.inr hc)
 refine ⟨⟨h.lio, by simp [h.llam], h.ltb, h.glob, ?_, fun c hc => ?_, h.kept, h.base, fun c o hS => ?_, fun o ob c ho hio => (h.objs o ob c ho hio).mono le hl rfl, fun i cs' c hL hlm => ?_, h.toks⟩, le⟩
 ·have hn := h.nodup
  have ho := f.own
  simp only [Ghost.owned, List.append_assoc] at hn ho ⊢
  rw [← List.append_assoc] at hn ho ⊢
  exact yd1 hn ho
 ·rcases hmem c hc with hc | rfl
  ·exact h.low c hc
  ·exact ⟨f.low, f.lt, f.K⟩
 ·have h1 := h.cells c o hS
  refine ⟨h1.1, h1.2.1, h1.2.2.1, ?_⟩
  simp only [List.mem_append, List.mem_singleton, not_or]
  exact ⟨h1.2.2.2, fun e => f.S o (e ▸ hS)⟩
 ·rcases getElem?_snoc hL with h1 | ⟨rfl, rfl⟩
  ·have hlt : i < g.lam.length := by rw [h.llam]; exact (List.getElem?_eq_some_iff.1 h1).1
   simp only [List.getElem?_append_left hlt] at hlm
   exact (h.priv i cs' c h1 hlm).mono le hl rfl
  ·rw [← h.llam] at hlm
   simp at hlm
   subst hlm
   exact hb.mono le hl rfl

theorem Inv.addObj (h : Inv g σ L w) {b : Nat} (f : Fresh g w b) {ob : AObj} (hb : RObj g σ.toks w b ob) :
  Inv { g with io := g.io ++ [b] } { σ with objs := σ.objs ++ [ob] } L w ∧ Le g σ.toks w { g with io := g.io ++ [b] } σ.toks w := by
 have le : Le g σ.toks w { g with io := g.io ++ [b] } σ.toks w := ⟨rfl, Keeps.refl _ _ _, fun _ _ h => yL h, fun _ t h => ⟨t, h, rfl, rfl, Nat.le_refl _, fun _ => rfl⟩⟩
 have hl : ∀ (i c : Nat), g.lam[i]? = some c → ({ g with io := g.io ++ [b] } : Ghost).lam[i]? = some c := fun i c hi => hi
 have hmem : ∀ c, c ∈ ({ g with io := g.io ++ [b] } : Ghost).owned → c ∈ g.owned ∨ c = b := by
  intro c hc
  simp only [Ghost.owned, List.mem_append, List.mem_singleton] at hc ⊢
  rcases hc with ((hc | hc) | hc) | hc
  ·exact .inl (.inl (.inl hc))
  ·exact .inr hc
  ·exact .inl (.inl (.inr hc))
  ·exact .inl (.inr hc)
 refine ⟨⟨by simp [h.lio], h.llam, h.ltb, h.glob, ?_, fun c hc => ?_, h.kept, h.base, fun c o hS => ?_, fun o ob' c ho hio => ?_, fun i cs' c hL hlm => (h.priv i cs' c hL hlm).mono le hl rfl, h.toks⟩, le⟩
 ·have hn := h.nodup
  have ho := f.own
  simp only [Ghost.owned, List.append_assoc] at hn ho ⊢
  exact yd1 hn ho
 ·rcases hmem c hc with hc | rfl
  ·exact h.low c hc
  ·exact ⟨f.low, f.lt, f.K⟩
 ·have h1 := h.cells c o hS
  refine ⟨h1.1, h1.2.1, ?_, h1.2.2.2⟩
  simp only [List.mem_append, List.mem_singleton, not_or]
  exact ⟨h1.2.2.1, fun e => f.S o (e ▸ hS)⟩
 ·rcases getElem?_snoc ho with h1 | ⟨rfl, rfl⟩
  ·have hlt : o < g.io.length := by rw [h.lio]; exact (List.getElem?_eq_some_iff.1 h1).1
   simp only [List.getElem?_append_left hlt] at hio
   exact (h.objs o ob' c h1 hio).mono le hl rfl
  ·rw [← h.lio] at hio
   simp at hio
   subst hio
   exact hb.mono le hl rfl

theorem Inv.addS (h : Inv g σ L w) {b : Nat} (f : Fresh g w b) (S' : Nat → Prop) :
  Inv { g with S := fun c o => g.S c o ∨ (c = b ∧ S' o) } σ L w ∧ Le g σ.toks w { g with S := fun c o => g.S c o ∨ (c = b ∧ S' o) } σ.toks w := by
 have hk : Keeps g.B g.S (fun c o => g.S c o ∨ (c = b ∧ S' o)) w w := ⟨fun _ _ h => .inl h, fun _ _ _ => rfl, fun _ _ => rfl⟩
 have le : Le g σ.toks w { g with S := fun c o => g.S c o ∨ (c = b ∧ S' o) } σ.toks w := ⟨rfl, hk, fun _ _ h => h, fun _ t h => ⟨t, h, rfl, rfl, Nat.le_refl _, fun _ => rfl⟩⟩
 have ho := f.own
 simp only [Ghost.owned, List.mem_append, not_or] at ho
 refine ⟨⟨h.lio, h.llam, h.ltb, fun n p hp => (h.glob n p hp).mono hk, h.nodup, h.low, fun c hK => ⟨(h.kept c hK).1, ?_⟩, h.base, fun c o hS => ?_, fun o ob c h1 hio => (h.objs o ob c h1 hio).mono le (fun _ _ h => h) rfl, fun i cs' c hL hlm => (h.priv i cs' c hL hlm).mono le (fun _ _ h => h) rfl, fun k t tb ht htb => ?_⟩, le⟩
 ·rintro o (hS | ⟨rfl, _⟩)
  ·exact (h.kept c hK).2 o hS
  ·exact f.K hK
 ·rcases hS with hS | ⟨rfl, _⟩
  ·exact h.cells c o hS
  ·exact ⟨f.low, f.lt, ho.1.1, ho.1.2⟩
 ·obtain ⟨cur, h1, h2, h3, h4, h5⟩ := h.toks k t tb ht htb
  refine ⟨cur, h1, h2, h3, h4, fun o hS => ?_⟩
  rcases hS with hS | ⟨e, _⟩
  ·exact h5 o hS
  ·have hm : tb.b ∈ g.tb.filterMap fun o => o.map (·.b) := List.mem_filterMap.2 ⟨some tb, List.mem_of_getElem? htb, rfl⟩
   exact absurd hm (e ▸ ho.2)
end
end Go.Aw

namespace Go.Aw
open Go
def St.put (s : St) (dst : Option Tmp) (x : AV) : St :=
 match dst with
 | some d => { s with T := (d, x) :: s.T }
 | none => s

def yJ (N : Nat) : Option Tmp → Bool
 | some d => decide (d < N)
 | none => true

def AOp (P : Program) (σ0 : Store) (N : Nat) (o : Oper) (next : St → Prop) (s : St) : Prop :=
 ∀ g0 w0 a w (nx : Act → World → Prop) (Q : Exit → Act → World → Prop), Rel g0 σ0 w0 N s a w → (∀ s' a' w', next s' → Rel g0 σ0 w0 N s' a' w' → nx a' w') → opW P o a w nx Q

def AOps (P : Program) (σ0 : Store) (N : Nat) (ops : Array Oper) (Q : St → Prop) (l : List Nat) (s : St) : Prop :=
 ∀ g0 w0 a w (nx : Exit → Act → World → Prop), Rel g0 σ0 w0 N s a w → (∀ s' a' w', Q s' → Rel g0 σ0 w0 N s' a' w' → nx .normal a' w') → opsW P ops nx l a w

section
variable {ρ : Option Nat} {P : Program} {ty : TyT} {g0 g : Ghost} {σ0 : Store} {w0 w : World} {N : Nat} {s : St} {a : Act} {o : Oper} {x : AV} {next : St → Prop} {ops : Array Oper} {Q : St → Prop}
theorem RelG.put (r : RelG g0 σ0 w0 N g s a w) {v : Value} (hx : RA g s.σ.toks w x v) {dst : Option Tmp} (hd : yJ N dst = true) : RelG g0 σ0 w0 N g (s.put dst x) (a.put dst v) w := by
 cases dst with
 | none => exact r
 | some d =>
  simp only [yJ, decide_eq_true_eq] at hd
  obtain ⟨h1, h2, h3, h4, h5⟩ := r
  refine ⟨h1, h2, by simp [Act.put, h3], h4, fun t => ?_⟩
  simp only [St.put, get, Act.put]
  split
  ·subst_vars
   simp only [Array.getD_eq_getD_getElem?, Array.getElem?_setIfInBounds]
   simp [hd, hx]
  ·have : (a.tmps.setIfInBounds d v).getD t undef = a.tmps.getD t undef := by
    simp only [Array.getD_eq_getD_getElem?, Array.getElem?_setIfInBounds]
    rw [if_neg ‹_›]
   rw [this]; exact h5 t

theorem AOp.mono {next' : St → Prop} (h : AOp P σ0 N o next s) (k : ∀ s', next s' → next' s') : AOp P σ0 N o next' s :=
 fun g0 w0 a w nx Q r hn => h g0 w0 a w nx Q r fun s' a' w' q => hn s' a' w' (k _ q)

theorem yfu (hty : TyOk P ty) (h : Yg ty s o.op = some x) (hd : yJ N o.dst = true) (hn : next (s.put o.dst x)) : AOp P σ0 N o next s := by
 rintro g0 w0 a w nx Q ⟨g, r⟩ hnx
 obtain ⟨v, h1, h2⟩ := yiI (P := P) hty r h
 unfold opW
 rw [h1]
 exact hnx _ _ _ hn ⟨g, r.put h2 hd⟩

theorem yjg (h : Q s) : AOps P σ0 N ops Q [] s := fun _ _ _ _ _ r hn => hn _ _ _ h r

theorem yhd {i : Nat} {l : List Nat} (ho : ops[i]? = some o) (hg : o.guard = none) (h : AOp P σ0 N o (AOps P σ0 N ops Q l) s) : AOps P σ0 N ops Q (i :: l) s := by
 intro g0 w0 a w nx r hn
 simp only [opsW, ho]
 rw [if_pos (by simp [Region.wanted, hg])]
 exact .inl (h g0 w0 a w _ _ r fun s' a' w' q r' => q g0 w0 a' w' nx r' hn)

def y9 (ops : Array Oper) (o : Oper) : Option (Tmp × Bool) :=
 match o.guard with
 | none => none
 | some (j, b) => ((ops[j]?).bind (·.dst)).map fun t => (t, b)

theorem yc6 (r : RelG g0 σ0 w0 N g s a w) {j : Nat} {d : Tmp} {b : Bool} (hd : (ops[j]?).bind (·.dst) = some d) (hb : get s.T d = .pv (.bool b)) : yielded ops a.tmps j = some b := by
 have h := r.2.2.2.2 d
 rw [hb] at h
 have h1 := h.pv_inv.bool_inv
 rw [Array.getD_eq_getD_getElem?] at h1
 simp only [yielded, hd, Option.bind_some]
 cases hc : a.tmps[d]? with
 | none => rw [hc] at h1; simp [undef] at h1
 | some v => rw [hc] at h1; simp at h1; subst h1; rfl

theorem yls {i : Nat} {l : List Nat} {d : Tmp} {b want : Bool} (ho : ops[i]? = some o) (hg : y9 ops o = some (d, want)) (hb : get s.T d = .pv (.bool b)) (hd : yJ N o.dst = true)
  (h : b = want → AOp P σ0 N o (AOps P σ0 N ops Q l) s) (h' : b = !want → AOps P σ0 N ops Q l (s.put o.dst .junk)) : AOps P σ0 N ops Q (i :: l) s := by
 rintro g0 w0 a w nx ⟨g, r⟩ hn
 unfold y9 at hg
 cases hgo : o.guard with
 | none => rw [hgo] at hg; cases hg
 | some p =>
  obtain ⟨j, w2⟩ := p
  rw [hgo] at hg
  obtain ⟨d', h1, h2⟩ := Option.map_eq_some_iff.1 hg
  cases h2
  have hy := yc6 r h1 hb
  simp only [opsW, ho]
  by_cases hbw : b = want
  ·rw [if_pos (by simp [Region.wanted, hgo, hy, hbw])]
   exact .inl (h hbw g0 w0 a w _ _ ⟨g, r⟩ fun s' a' w' q r' => q g0 w0 a' w' nx r' hn)
  ·rw [if_neg (by simp [Region.wanted, hgo, hy, hbw])]
   exact h' (by cases b <;> cases want <;> simp_all) g0 w0 _ w nx ⟨g, r.put .junk hd⟩ hn

def off (x : AV) (want : Bool) : Bool :=
 match x with
 | .pv (.bool b) => b == !want
 | .tuple [] => true
 | _ => false

theorem yiz {tk : List Tok} : RA g tk w (.tuple []) undef := RA.tuple (cs := []) (vs := []) rfl (fun i x v h => by simp at h)

theorem yey (r : RelG g0 σ0 w0 N g s a w) {j : Nat} {d : Tmp} {want : Bool} (hd : (ops[j]?).bind (·.dst) = some d) (hb : off (get s.T d) want = true) : yielded ops a.tmps j ≠ some want := by
 unfold off at hb
 split at hb
 ·rename_i b hx
  rw [yc6 r hd hx]
  intro e; cases e; cases want <;> simp at hb
 ·rename_i hx
  have h := r.2.2.2.2 d
  rw [hx] at h
  have h1 : a.tmps.getD d undef = .tuple #[] := by
   generalize a.tmps.getD d undef = v at h
   cases h with
   | tuple hl hr =>
    rename_i vs
    have : vs = [] := List.eq_nil_of_length_eq_zero (by simpa using hl)
    subst this; rfl
  rw [Array.getD_eq_getD_getElem?] at h1
  simp only [yielded, hd, Option.bind_some]
  cases hc : a.tmps[d]? with
  | none => simp
  | some v => rw [hc] at h1; simp at h1; subst h1; simp
 ·cases hb

theorem yhn {i : Nat} {l : List Nat} {d : Tmp} {want : Bool} (ho : ops[i]? = some o) (hg : y9 ops o = some (d, want)) (hb : off (get s.T d) want = true) (hd : yJ N o.dst = true)
  (h' : AOps P σ0 N ops Q l (s.put o.dst (.tuple []))) : AOps P σ0 N ops Q (i :: l) s := by
 rintro g0 w0 a w nx ⟨g, r⟩ hn
 unfold y9 at hg
 cases hgo : o.guard with
 | none => rw [hgo] at hg; cases hg
 | some p =>
  obtain ⟨j, w2⟩ := p
  rw [hgo] at hg
  obtain ⟨d', h1, h2⟩ := Option.map_eq_some_iff.1 hg
  cases h2
  have hy := yey r h1 hb
  simp only [opsW, ho]
  rw [if_neg (by simpa [Region.wanted, hgo] using hy)]
  exact h' g0 w0 _ w nx ⟨g, r.put yiz hd⟩ hn

theorem yfS {id : Nat} {Q : Exit → St → Prop} (h : AOps P σ0 N ops (Q .normal) (List.range ops.size) s) : AWpR ρ P σ0 N (.region id ops false) Q s := by
 intro g0 w0 a w r
 exact wpIn_region (opsW.wpIn _ (h g0 w0 a w _ r fun s' a' w' q r' => ⟨s', q, r'⟩))

theorem yc {c : Operand} {x y : Code} {Q : Exit → St → Prop} {b : Bool} (hc : ev s c = .pv (.bool b)) (ht : b = true → AWpR ρ P σ0 N x Q s) (hf : b = false → AWpR ρ P σ0 N y Q s) : AWpR ρ P σ0 N (.cond c x y) Q s := by
 rintro g0 w0 a w ⟨g, r⟩
 have h := r.ev c
 rw [hc] at h
 refine wpIn_cond_split h.pv_inv.bool_inv (fun e => ht e g0 w0 a w ⟨g, r⟩) (fun e => hf e g0 w0 a w ⟨g, r⟩)

theorem RelG.later (r : RelG g0 σ0 w0 N g s a w) {g' : Ghost} {σ' : Store} {L' : List (List AV)} {w' : World} (le : Le g s.σ.toks w g' σ'.toks w') (hl : ∀ (i b : Nat), g.lam[i]? = some b → g'.lam[i]? = some b) (inv : Inv g' σ' L' w') (hK : g'.K = g.K) (hgl : σ'.gl = s.σ.gl)
  (hblk : ∀ b : Nat, g.K b → w'.heap[b]? = w.heap[b]?) (hs : w.heap.size ≤ w'.heap.size) (h1 : w'.os = w.os) (h2 : w'.tape = w.tape) (h3 : w'.output = w.output) :
  RelG g0 σ0 w0 N g' { s with σ := σ', L := L' } a w' := by
 refine ⟨r.1.trans ⟨le, hgl, fun b hb => by rw [hK]; exact hb, hblk, hs, h1, h2, h3, r.2.1.lio, r.2.1.clo⟩, inv, r.2.2.1, r.2.2.2.1.mono (fun b hb => by rw [hK]; exact hb) le.B hblk, fun t => (r.2.2.2.2 t).mono le hl⟩

theorem RelG.alloc (r : RelG g0 σ0 w0 N g s a w) (ob : Obj) : RelG g0 σ0 w0 N g s a (w.alloc ob) ∧ Fresh g (w.alloc ob) w.heap.size := by
 have h := r.2.1.alloc ob
 refine ⟨?_, r.2.1.fresh ob⟩
 exact r.later (σ' := s.σ) (L' := s.L) h.2 (fun _ _ h => h) h.1 rfl rfl (fun b hb => Go.RowKit.Below.heap_alloc w ob b (r.2.1.kept b hb).1) (by simp) rfl rfl rfl

theorem RelG.addLam (r : RelG g0 σ0 w0 N g s a w) {b : Nat} (f : Fresh g w b) {cs : List AV} (hb : RBox g s.σ.toks w b cs) : RelG g0 σ0 w0 N { g with lam := g.lam ++ [b] } { s with L := s.L ++ [cs] } a w := by
 have h := r.2.1.addLam f hb
 exact r.later (σ' := s.σ) h.2 (fun _ _ h => yL h) h.1 rfl rfl (fun _ _ => rfl) (Nat.le_refl _) rfl rfl rfl

theorem RelG.addObj (r : RelG g0 σ0 w0 N g s a w) {b : Nat} (f : Fresh g w b) {ob : AObj} (hb : RObj g s.σ.toks w b ob) : RelG g0 σ0 w0 N { g with io := g.io ++ [b] } { s with σ := { s.σ with objs := s.σ.objs ++ [ob] } } a w := by
 have h := r.2.1.addObj f hb
 exact r.later (σ' := { s.σ with objs := s.σ.objs ++ [ob] }) (L' := s.L) h.2 (fun _ _ h => h) h.1 rfl rfl (fun _ _ => rfl) (Nat.le_refl _) rfl rfl rfl

theorem RelG.addS (r : RelG g0 σ0 w0 N g s a w) {b : Nat} (f : Fresh g w b) (S' : Nat → Prop) : RelG g0 σ0 w0 N { g with S := fun c o => g.S c o ∨ (c = b ∧ S' o) } s a w := by
 have h := r.2.1.addS f S'
 exact r.later (σ' := s.σ) (L' := s.L) h.2 (fun _ _ h => h) h.1 rfl rfl (fun _ _ => rfl) (Nat.le_refl _) rfl rfl rfl

theorem RA.alloc {g : Ghost} {σ : Store} {L : List (List AV)} (h : Inv g σ L w) (ob : Obj) {x : AV} {v : Value} (hx : RA g σ.toks w x v) : RA g σ.toks (w.alloc ob) x v := hx.mono (h.alloc ob).2 (fun _ _ h => h)

theorem zI (w : World) (ob : Obj) : (w.alloc ob).heap[w.heap.size]? = some ob := by
 show (w.heap.push ob)[w.heap.size]? = some ob
 simp

theorem boxed (r : RelG g0 σ0 w0 N g s a w) {cs : List AV} {vs : List Value} (h : RCells g s.σ.toks w cs vs) (e : TypeId) :
  ∃ g', RelG g0 σ0 w0 N g' { s with L := s.L ++ [cs] } a (w.alloc (.cells vs.toArray e)) ∧ RA g' s.σ.toks (w.alloc (.cells vs.toArray e)) (.lptr s.L.length 0) (.pointer (some ⟨w.heap.size, 0, none⟩)) := by
 obtain ⟨r1, f⟩ := r.alloc (.cells vs.toArray e)
 have hb : RBox g s.σ.toks (w.alloc (.cells vs.toArray e)) w.heap.size cs := ⟨vs, e, zI w _, h.len, h.one, fun i x v hx hv => (h.all i x v hx hv).alloc r.2.1 _⟩
 refine ⟨_, r1.addLam f hb, .lptr ?_⟩
 rw [← r.2.1.llam]; simp

theorem ybN (r : RelG g0 σ0 w0 N g s a w) {cs : List AV} {vs : List Value} (h : RCells g s.σ.toks w cs vs) (hn : ∀ x, x ∈ cs → x.noL = true) (e : TypeId) :
  ∃ g', RelG g0 σ0 w0 N g' { s with σ := { s.σ with objs := s.σ.objs ++ [.box cs] } } a (w.alloc (.cells vs.toArray e)) ∧ RA g' s.σ.toks (w.alloc (.cells vs.toArray e)) (.ptr s.σ.objs.length 0) (.pointer (some ⟨w.heap.size, 0, none⟩)) := by
 obtain ⟨r1, f⟩ := r.alloc (.cells vs.toArray e)
 have hb : RBox g s.σ.toks (w.alloc (.cells vs.toArray e)) w.heap.size cs := ⟨vs, e, zI w _, h.len, h.one, fun i x v hx hv => (h.all i x v hx hv).alloc r.2.1 _⟩
 refine ⟨_, r1.addObj (ob := .box cs) f ⟨hn, hb⟩, .ptr ?_⟩
 rw [← r.2.1.lio]; simp

theorem yki (e : TypeId) (v : Value) {vs : List Value} (h : v.cells = vs.toArray) : (Instr.box e v).run P w = .ok (.pointer (some ⟨w.heap.size, 0, none⟩)) (w.alloc (.cells vs.toArray e)) := by
 simp [Instr.box, newVar, newRow, h]

theorem yj7 {e : TypeId} {y : Operand} {cs : List AV} (ho : o.op = .box e y) (hc : (ev s y).cells = some cs) (hd : yJ N o.dst = true)
  (hn : next (({ s with L := s.L ++ [cs] } : St).put o.dst (.lptr s.L.length 0))) : AOp P σ0 N o next s := by
 rintro g0 w0 a w nx Q ⟨g, r⟩ hnx
 obtain ⟨vs, h1, h2⟩ := (r.ev y).rcells hc
 obtain ⟨g', r', hp⟩ := boxed r h2 e
 unfold opW
 have hrun : (execOp a.eval o).run P w = .ok (.value (.pointer (some ⟨w.heap.size, 0, none⟩))) (w.alloc (.cells vs.toArray e)) := by
  simp only [execOp, ho, Sem.run_bind, yki e _ h1, Result.andThen_ok, Sem.run_pure]
 rw [hrun]
 exact hnx _ _ _ hn ⟨g', r'.put hp hd⟩

theorem ynC {e : TypeId} {y : Operand} {cs : List AV} (ho : o.op = .box e y) (hc : (ev s y).cells = some cs) (hl : AV.noLs cs = true) (hd : yJ N o.dst = true)
  (hn : next (({ s with σ := { s.σ with objs := s.σ.objs ++ [.box cs] } } : St).put o.dst (.ptr s.σ.objs.length 0))) : AOp P σ0 N o next s := by
 rintro g0 w0 a w nx Q ⟨g, r⟩ hnx
 obtain ⟨vs, h1, h2⟩ := (r.ev y).rcells hc
 obtain ⟨g', r', hp⟩ := ybN r h2 (AV.noLs_iff.1 hl) e
 unfold opW
 have hrun : (execOp a.eval o).run P w = .ok (.value (.pointer (some ⟨w.heap.size, 0, none⟩))) (w.alloc (.cells vs.toArray e)) := by
  simp only [execOp, ho, Sem.run_bind, yki e _ h1, Result.andThen_ok, Sem.run_pure]
 rw [hrun]
 exact hnx _ _ _ hn ⟨g', r'.put hp hd⟩

theorem yg2 (hty : TyOk P ty) {e : TypeId} {ti : TyI} (hti : ty e = some ti) : ∃ vs : List Value, (∀ (g : Ghost) (tk : List Tok) (w : World), RCells g tk w (ti.zero.map .pv) vs) ∧
  (Instr.alloc e true (.tuple #[])).run P w = .ok (.pointer (some ⟨w.heap.size, 0, none⟩)) (w.alloc (.cells vs.toArray e)) := by
 obtain ⟨i, z, h7, h8, h9, h10, h11, h12, h13⟩ := (hty _ _ hti).info
 refine ⟨z.cells.toList, fun g tk w => Yt h11, ?_⟩
 simp [Instr.alloc, zeroValue, typeInfo, h7, h10, newVar, newRow]

theorem yht (hty : TyOk P ty) {e : TypeId} {ti : TyI} (ho : o.op = .alloc e) (hti : ty e = some ti) (hd : yJ N o.dst = true)
  (hn : next (({ s with L := s.L ++ [ti.zero.map .pv] } : St).put o.dst (.lptr s.L.length 0))) : AOp P σ0 N o next s := by
 rintro g0 w0 a w nx Q ⟨g, r⟩ hnx
 obtain ⟨vs, h1, h2⟩ := yg2 (P := P) (w := w) hty hti
 obtain ⟨g', r', hp⟩ := boxed r (h1 _ _ _) e
 unfold opW
 have hrun : (execOp a.eval o).run P w = .ok (.value (.pointer (some ⟨w.heap.size, 0, none⟩))) (w.alloc (.cells vs.toArray e)) := by
  simp only [execOp, ho, Sem.run_bind, h2, Result.andThen_ok, Sem.run_pure]
 rw [hrun]
 exact hnx _ _ _ hn ⟨g', r'.put hp hd⟩

theorem yrS {ps : List PV} : ∀ x, x ∈ ps.map AV.pv → x.noL = true := by
 intro x hx
 obtain ⟨p, _, rfl⟩ := List.mem_map.1 hx
 rfl

theorem yk1 (hty : TyOk P ty) {e : TypeId} {ti : TyI} (ho : o.op = .alloc e) (hti : ty e = some ti) (hd : yJ N o.dst = true)
  (hn : next (({ s with σ := { s.σ with objs := s.σ.objs ++ [.box (ti.zero.map .pv)] } } : St).put o.dst (.ptr s.σ.objs.length 0))) : AOp P σ0 N o next s := by
 rintro g0 w0 a w nx Q ⟨g, r⟩ hnx
 obtain ⟨vs, h1, h2⟩ := yg2 (P := P) (w := w) hty hti
 obtain ⟨g', r', hp⟩ := ybN r (h1 _ _ _) yrS e
 unfold opW
 have hrun : (execOp a.eval o).run P w = .ok (.value (.pointer (some ⟨w.heap.size, 0, none⟩))) (w.alloc (.cells vs.toArray e)) := by
  simp only [execOp, ho, Sem.run_bind, h2, Result.andThen_ok, Sem.run_pure]
 rw [hrun]
 exact hnx _ _ _ hn ⟨g', r'.put hp hd⟩
end
end Go.Aw

namespace Go.Aw
open Go
def zk (w : World) (b : Nat) (o : Obj) : World := { w with heap := w.heap.setIfInBounds b o }

theorem ZL {w : World} {b : Nat} {o o' : Obj} (h : w.heap[b]? = some o') : (zk w b o).heap[b]? = some o := by
 have hlt : b < w.heap.size := (Array.getElem?_eq_some_iff.1 h).1
 show (w.heap.setIfInBounds b o)[b]? = some o
 simp [hlt]

theorem y3 {w : World} {b c : Nat} {o : Obj} (h : c ≠ b) : (zk w b o).heap[c]? = w.heap[c]? := by
 show (w.heap.setIfInBounds b o)[c]? = _
 rw [Array.getElem?_setIfInBounds, if_neg (by omega)]

theorem yP {w : World} {b : Nat} {o : Obj} : (zk w b o).heap.size = w.heap.size := by simp [zk]

theorem yeQ {w : World} {b i : Nat} {c : Array Value} {e : TypeId} {f : Nat × Nat} (h : w.heap[b]? = some (.cells c e f)) (v : Value) : w.setCell ⟨b, i, none⟩ v = zk w b (.cells (c.setIfInBounds i v) e f) := by
 unfold World.setCell zk
 congr 1
 apply Array.ext_getElem?
 intro j
 rw [Array.getElem?_modify, Array.getElem?_setIfInBounds]
 have hlt : b < w.heap.size := (Array.getElem?_eq_some_iff.1 h).1
 by_cases hj : b = j
 ·subst hj; rw [if_pos rfl, h]; simp [hlt]
 ·simp [hj]

theorem yhK {w : World} {b : Nat} {o o' : Obj} : zk (zk w b o) b o' = zk w b o' := by
 unfold zk
 congr 1
 simp

section
variable {P : Program} {ty : TyT} {g0 g : Ghost} {σ0 : Store} {w0 w : World} {N : Nat} {s : St} {a : Act} {o : Oper} {x : AV} {next : St → Prop}
theorem ybV {b off : Nat} {e : TypeId} : ∀ (us : List Value) (j : Nat) (w : World) (c : Array Value), w.heap[b]? = some (.cells c e (0, 0)) → off + j + us.length ≤ c.size → (∀ u, u ∈ us → u.oneCell' = true) →
  (storeCells ⟨b, off, none⟩ us j).run P w = .ok () (zk w b (.cells ((us.zipIdx j).foldl (fun (cs : Array Value) p => cs.setIfInBounds (off + p.2) p.1) c) e (0, 0)))
 | [], j, w, c, h, _, _ => by
  have : zk w b (.cells c e (0, 0)) = w := by
   unfold zk
   have hlt : b < w.heap.size := (Array.getElem?_eq_some_iff.1 h).1
   have : w.heap.setIfInBounds b (.cells c e (0, 0)) = w.heap := by
    apply Array.ext_getElem?
    intro i
    rw [Array.getElem?_setIfInBounds]
    by_cases hi : b = i
    ·subst hi; rw [h]; simp [hlt]
    ·simp [hi]
   rw [this]
  simp [storeCells, this]
 | u :: us, j, w, c, h, hl, h1 => by
  simp only [List.length_cons] at hl
  have hcell : w.cell? ⟨b, off + j, none⟩ = some (c[off + j]'(by omega)) := by
   rw [zg h]; simp
  have hfz : w.frozen? ⟨b, off + j, none⟩ = false := by simp [World.frozen?, h]
  simp only [storeCells, Sem.run_bind, y5, run_store _ _ _ _ _ (h1 u (by simp)), hcell, hfz, Bool.false_eq_true, if_false, Result.andThen_ok]
  rw [yeQ h]
  rw [ybV us (j + 1) _ (c.setIfInBounds (off + j) u) (ZL h) (by simp; omega) (fun v hv => h1 v (by simp [hv]))]
  rw [yhK]
  simp [List.zipIdx_cons]

theorem Inv.turn {σ : Store} {L : List (List AV)} (h : Inv g σ L w) {b : Nat} {ob ob' : Obj} (hb : w.heap[b]? = some ob') (hm : b ∈ g.io ∨ b ∈ g.lam) : Le g σ.toks w g σ.toks (zk w b ob) ∧ (∀ c, g.K c → (zk w b ob).heap[c]? = w.heap[c]?) := by
 have hown : b ∈ g.owned := by
  simp only [Ghost.owned, List.mem_append]; exact .inl hm
 have hlow := h.low b hown
 refine ⟨⟨rfl, ⟨fun _ _ h => h, fun c o' hc => ?_, fun c hc => y3 (by omega)⟩, fun _ _ h => h, fun _ t h => ⟨t, h, rfl, rfl, Nat.le_refl _, fun _ => rfl⟩⟩, fun c hK => y3 (fun e => hlow.2.2 (e ▸ hK))⟩
 refine World.cell?_of_block (w := w) (a := ⟨c, o', none⟩) (y3 ?_)
 intro he
 have he : c = b := he
 subst he
 rcases hc with hc | hc
 ·omega
 ·have := h.cells _ _ hc
  rcases hm with hm | hm
  ·exact this.2.2.1 hm
  ·exact this.2.2.2 hm

theorem Ya {l : List Nat} (h : l.Nodup) {i j b : Nat} (hi : l[i]? = some b) (hj : l[j]? = some b) : i = j := by
 obtain ⟨h1, h2⟩ := List.getElem?_eq_some_iff.1 hi
 obtain ⟨h3, h4⟩ := List.getElem?_eq_some_iff.1 hj
 exact (List.getElem_inj (h₀ := h1) (h₁ := h3) h).1 (h2.trans h4.symm)

theorem Inv.apart {σ : Store} {L : List (List AV)} (h : Inv g σ L w) : (g.io.Nodup ∧ g.lam.Nodup) ∧ (∀ b, b ∈ g.io → b ∉ g.lam) ∧ ∀ (k : Nat) (tb : TokB), g.tb[k]? = some (some tb) → tb.b ∉ g.io ∧ tb.b ∉ g.lam := by
 have hn := h.nodup
 simp only [Ghost.owned] at hn
 rw [List.nodup_append] at hn
 have h2 := List.nodup_append.1 hn.1
 refine ⟨⟨h2.1, h2.2.1⟩, fun b hb hl => h2.2.2 b hb b hl rfl, fun k tb hk => ?_⟩
 have hm : tb.b ∈ g.tb.filterMap fun o => o.map (·.b) := List.mem_filterMap.2 ⟨some tb, List.mem_of_getElem? hk, rfl⟩
 exact ⟨fun hi => hn.2.2 tb.b (List.mem_append_left _ hi) tb.b hm rfl, fun hi => hn.2.2 tb.b (List.mem_append_right _ hi) tb.b hm rfl⟩

theorem Inv.setLam {σ : Store} {L : List (List AV)} (h : Inv g σ L w) {i b : Nat} {ob' : Obj} (hb : w.heap[b]? = some ob') (hi : g.lam[i]? = some b) {ds : List AV} {us : List Value} {e : TypeId} (hr : RCells g σ.toks w ds us) :
  Inv g σ (L.set i ds) (zk w b (.cells us.toArray e (0, 0))) := by
 obtain ⟨le, hK⟩ := h.turn (ob := .cells us.toArray e (0, 0)) hb (.inr (List.mem_of_getElem? hi))
 have ap := h.apart
 have hbl : b ∈ g.lam := List.mem_of_getElem? hi
 refine ⟨h.lio, by simp [h.llam], h.ltb, fun n p hp => (h.glob n p hp).mono le.keeps, h.nodup, fun c hc => by rw [yP]; exact h.low c hc, fun c hc => by rw [yP]; exact h.kept c hc, by rw [yP]; exact h.base, fun c o hS => by rw [yP]; exact h.cells c o hS, fun o ob c ho hio => ?_, fun j cs' c hL hl => ?_, fun k t tb ht htb => ?_⟩
 ·refine (h.objs o ob c ho hio).mono le (fun _ _ h => h) (y3 ?_)
  rintro rfl; exact ap.2.1 _ (List.mem_of_getElem? hio) hbl
 ·rw [List.getElem?_set] at hL
  split at hL
  ·subst_vars
   rw [hi] at hl; cases hl
   split at hL
   ·cases hL
    exact ⟨us, e, ZL hb, hr.len, hr.one, fun i x v hx hv => (hr.all i x v hx hv).mono le (fun _ _ h => h)⟩
   ·cases hL
  ·refine (h.priv j cs' c hL hl).mono le (fun _ _ h => h) (y3 ?_)
   rintro rfl; exact ‹¬ i = j› (Ya ap.1.2 hi hl)
 ·obtain ⟨cur, h1, h2⟩ := h.toks k t tb ht htb
  refine ⟨cur, (y3 ?_).trans h1, h2⟩
  intro he; exact (ap.2.2 k tb htb).2 (he ▸ hbl)

theorem Inv.setObj {σ : Store} {L : List (List AV)} (h : Inv g σ L w) {i b : Nat} {ob' : Obj} (hb : w.heap[b]? = some ob') (hi : g.io[i]? = some b) {ds : List AV} {us : List Value} {e : TypeId} (hr : RCells g σ.toks w ds us) (hn : ∀ x, x ∈ ds → x.noL = true) :
  Inv g { σ with objs := σ.objs.set i (.box ds) } L (zk w b (.cells us.toArray e (0, 0))) := by
 obtain ⟨le, hK⟩ := h.turn (ob := .cells us.toArray e (0, 0)) hb (.inl (List.mem_of_getElem? hi))
 have ap := h.apart
 have hbl : b ∈ g.io := List.mem_of_getElem? hi
 refine ⟨by simp [h.lio], h.llam, h.ltb, fun n p hp => (h.glob n p hp).mono le.keeps, h.nodup, fun c hc => by rw [yP]; exact h.low c hc, fun c hc => by rw [yP]; exact h.kept c hc, by rw [yP]; exact h.base, fun c o hS => by rw [yP]; exact h.cells c o hS, fun j ob c ho hio => ?_, fun j cs' c hL hl => ?_, fun k t tb ht htb => ?_⟩
 ·simp only [List.getElem?_set] at ho
  split at ho
  ·subst_vars
   rw [hi] at hio; cases hio
   split at ho
   ·cases ho
    exact ⟨hn, us, e, ZL hb, hr.len, hr.one, fun i x v hx hv => (hr.all i x v hx hv).mono le (fun _ _ h => h)⟩
   ·cases ho
  ·refine (h.objs j ob c ho hio).mono le (fun _ _ h => h) (y3 ?_)
   rintro rfl; exact ‹¬ i = j› (Ya ap.1.1 hi hio)
 ·refine (h.priv j cs' c hL hl).mono le (fun _ _ h => h) (y3 ?_)
  rintro rfl; exact ap.2.1 _ hbl (List.mem_of_getElem? hl)
 ·obtain ⟨cur, h1, h2⟩ := h.toks k t tb ht htb
  refine ⟨cur, (y3 ?_).trans h1, h2⟩
  intro he; exact (ap.2.2 k tb htb).1 (he ▸ hbl)

theorem Inv.setArr {σ : Store} {L : List (List AV)} (h : Inv g σ L w) {i b : Nat} {ob' : Obj} (hb : w.heap[b]? = some ob') (hi : g.io[i]? = some b) {ds : List AV} {us rest : List Value} {e : TypeId} (hr : RCells g σ.toks w ds us) (hn : ∀ x, x ∈ ds → x.noL = true) :
  Inv g { σ with objs := σ.objs.set i (.arr ds) } L (zk w b (.cells (us ++ rest).toArray e (0, 0))) := by
 obtain ⟨le, hK⟩ := h.turn (ob := .cells (us ++ rest).toArray e (0, 0)) hb (.inl (List.mem_of_getElem? hi))
 have ap := h.apart
 have hbl : b ∈ g.io := List.mem_of_getElem? hi
 refine ⟨by simp [h.lio], h.llam, h.ltb, fun n p hp => (h.glob n p hp).mono le.keeps, h.nodup, fun c hc => by rw [yP]; exact h.low c hc, fun c hc => by rw [yP]; exact h.kept c hc, by rw [yP]; exact h.base, fun c o hS => by rw [yP]; exact h.cells c o hS, fun j ob c ho hio => ?_, fun j cs' c hL hl => ?_, fun k t tb ht htb => ?_⟩
 ·simp only [List.getElem?_set] at ho
  split at ho
  ·subst_vars
   rw [hi] at hio; cases hio
   split at ho
   ·cases ho
    exact ⟨hn, us, rest, e, ZL hb, hr.len, hr.one, fun i x v hx hv => (hr.all i x v hx hv).mono le (fun _ _ h => h)⟩
   ·cases ho
  ·refine (h.objs j ob c ho hio).mono le (fun _ _ h => h) (y3 ?_)
   rintro rfl; exact ‹¬ i = j› (Ya ap.1.1 hi hio)
 ·refine (h.priv j cs' c hL hl).mono le (fun _ _ h => h) (y3 ?_)
  rintro rfl; exact ap.2.1 _ hbl (List.mem_of_getElem? hl)
 ·obtain ⟨cur, h1, h2⟩ := h.toks k t tb ht htb
  refine ⟨cur, (y3 ?_).trans h1, h2⟩
  intro he; exact (ap.2.2 k tb htb).1 (he ▸ hbl)

def overlay (cs : List AV) (off : Nat) (ds : List AV) : List AV := cs.take off ++ ds ++ cs.drop (off + ds.length)

theorem RCells.overlay {tk : List Tok} {cs ds : List AV} {vs us : List Value} (h : RCells g tk w cs vs) (k : RCells g tk w ds us) (off : Nat) : RCells g tk w (Aw.overlay cs off ds) (vs.take off ++ us ++ vs.drop (off + us.length)) := by
 rw [Aw.overlay, k.len]
 exact ((h.take off).append k).append (h.drop _)

theorem ybf (hty : TyOk P ty) {t : TypeId} {ti : TyI} (hti : ty t = some ti) {b off : Nat} {e : TypeId} {vs us : List Value} {v : Value} (hv : v.cells = us.toArray) (h1 : ∀ u, u ∈ us → u.oneCell' = true) (hsz : us.length = ti.size)
  (hb : w.heap[b]? = some (.cells vs.toArray e (0, 0))) (hle : off + us.length ≤ vs.length) :
  (Instr.storeAt t (.pointer (some ⟨b, off, none⟩)) v).run P w = .ok () (zk w b (.cells (vs.take off ++ us ++ vs.drop (off + us.length)).toArray e (0, 0))) := by
 have hs := (hty _ _ hti).run_size w
 have hrun := ybV (P := P) (off := off) us 0 w vs.toArray hb (by simp; omega) h1
 have hf := yd4 off us 0 vs.toArray (by simp; omega)
 simp only [Nat.add_zero] at hf
 have : (us.zipIdx 0).foldl (fun (cs : Array Value) p => cs.setIfInBounds (off + p.2) p.1) vs.toArray = (vs.take off ++ us ++ vs.drop (off + us.length)).toArray := by
  apply Array.ext'; rw [hf]
 rw [this] at hrun
 simp only [Instr.storeAt, Instr.sureAddr, Sem.run_bind, Sem.run_pure, Result.andThen_ok, storeVar, hs, hv]
 simp [hsz, hrun]

theorem yfU (hty : TyOk P ty) {t : TypeId} {ti : TyI} {p y : Operand} {i off : Nat} {cs ds : List AV} (ho : o.op = .store t p y) (hp : ev s p = .lptr i off) (hti : ty t = some ti)
  (hcs : s.L[i]? = some cs) (hds : (ev s y).cells = some ds) (hsz : ds.length = ti.size) (hle : off + ds.length ≤ cs.length) (hd : yJ N o.dst = true)
  (hn : next (({ s with L := s.L.set i (overlay cs off ds) } : St).put o.dst .junk)) : AOp P σ0 N o next s := by
 rintro g0 w0 a w nx Q ⟨g, r⟩ hnx
 obtain ⟨us, h1, h2⟩ := (r.ev y).rcells hds
 have hpr := r.ev p
 rw [hp] at hpr
 generalize hpv : a.eval p = pv at hpr
 cases hpr with
 | lptr hb =>
  rename_i b
  obtain ⟨vs, e, h3, h4, h5, h6⟩ := r.2.1.priv i cs b hcs hb
  have hrun := ybf (P := P) (w := w) (off := off) hty hti h1 h2.one (by rw [h2.len]; exact hsz) h3 (by rw [h2.len, h4]; exact hle)
  obtain ⟨le, hK⟩ := r.2.1.turn (ob := .cells (vs.take off ++ us ++ vs.drop (off + us.length)).toArray e (0, 0)) h3 (.inr (List.mem_of_getElem? hb))
  have hinv := r.2.1.setLam (e := e) h3 hb (RCells.overlay ⟨h4, h5, h6⟩ h2 off)
  have r' := r.later (σ' := s.σ) (L' := s.L.set i (overlay cs off ds)) le (fun _ _ h => h) hinv rfl rfl hK (by rw [yP]; exact Nat.le_refl _) rfl rfl rfl
  unfold opW
  have : (execOp a.eval o).run P w = .ok .skip (zk w b (.cells (vs.take off ++ us ++ vs.drop (off + us.length)).toArray e (0, 0))) := by
   simp only [execOp, ho, hpv, Sem.run_bind, hrun, Result.andThen_ok, Sem.run_pure]
  rw [this]
  exact hnx _ _ _ hn ⟨g, r'.put .junk hd⟩

theorem yli (hty : TyOk P ty) {t : TypeId} {ti : TyI} {p y : Operand} {i off : Nat} {cs ds : List AV} (ho : o.op = .store t p y) (hp : ev s p = .ptr i off) (hti : ty t = some ti)
  (hcs : s.σ.objs[i]? = some (.box cs)) (hds : (ev s y).cells = some ds) (hnl : AV.noLs ds = true) (hsz : ds.length = ti.size) (hle : off + ds.length ≤ cs.length) (hd : yJ N o.dst = true)
  (hn : next (({ s with σ := { s.σ with objs := s.σ.objs.set i (.box (overlay cs off ds)) } } : St).put o.dst .junk)) : AOp P σ0 N o next s := by
 rintro g0 w0 a w nx Q ⟨g, r⟩ hnx
 obtain ⟨us, h1, h2⟩ := (r.ev y).rcells hds
 have hpr := r.ev p
 rw [hp] at hpr
 generalize hpv : a.eval p = pv at hpr
 cases hpr with
 | ptr hb =>
  rename_i b
  obtain ⟨hnl', vs, e, h3, h4, h5, h6⟩ := r.2.1.objs i _ b hcs hb
  have hrun := ybf (P := P) (w := w) (off := off) hty hti h1 h2.one (by rw [h2.len]; exact hsz) h3 (by rw [h2.len, h4]; exact hle)
  obtain ⟨le, hK⟩ := r.2.1.turn (ob := .cells (vs.take off ++ us ++ vs.drop (off + us.length)).toArray e (0, 0)) h3 (.inl (List.mem_of_getElem? hb))
  have hinv := r.2.1.setObj (e := e) h3 hb (RCells.overlay ⟨h4, h5, h6⟩ h2 off) (by
   intro x hx
   simp only [overlay, List.mem_append] at hx
   rcases hx with (hx | hx) | hx
   ·exact hnl' x (List.mem_of_mem_take hx)
   ·exact AV.noLs_iff.1 hnl x hx
   ·exact hnl' x (List.mem_of_mem_drop hx))
  have r' := r.later (σ' := { s.σ with objs := s.σ.objs.set i (.box (overlay cs off ds)) }) (L' := s.L) le (fun _ _ h => h) hinv rfl rfl hK (by rw [yP]; exact Nat.le_refl _) rfl rfl rfl
  unfold opW
  have : (execOp a.eval o).run P w = .ok .skip (zk w b (.cells (vs.take off ++ us ++ vs.drop (off + us.length)).toArray e (0, 0))) := by
   simp only [execOp, ho, hpv, Sem.run_bind, hrun, Result.andThen_ok, Sem.run_pure]
  rw [this]
  exact hnx _ _ _ hn ⟨g, r'.put .junk hd⟩
theorem yaT (hty : TyOk P ty) {t : TypeId} {ti : TyI} {p y : Operand} {i off : Nat} {cs ds : List AV} (ho : o.op = .store t p y) (hp : ev s p = .ptr i off) (hti : ty t = some ti)
  (hcs : s.σ.objs[i]? = some (.arr cs)) (hds : (ev s y).cells = some ds) (hnl : AV.noLs ds = true) (hsz : ds.length = ti.size) (hle : off + ds.length ≤ cs.length) (hd : yJ N o.dst = true)
  (hn : next (({ s with σ := { s.σ with objs := s.σ.objs.set i (.arr (overlay cs off ds)) } } : St).put o.dst .junk)) : AOp P σ0 N o next s := by
 rintro g0 w0 a w nx Q ⟨g, r⟩ hnx
 obtain ⟨us, h1, h2⟩ := (r.ev y).rcells hds
 have hpr := r.ev p
 rw [hp] at hpr
 generalize hpv : a.eval p = pv at hpr
 cases hpr with
 | ptr hb =>
  rename_i b
  obtain ⟨hnl', vs, rest, e, h3, h4, h5, h6⟩ := r.2.1.objs i _ b hcs hb
  have hle2 : off + us.length ≤ vs.length := by rw [h2.len, h4]; exact hle
  have hov : (vs ++ rest).take off ++ us ++ (vs ++ rest).drop (off + us.length) = (vs.take off ++ us ++ vs.drop (off + us.length)) ++ rest := by
   rw [List.take_append_of_le_length (by omega), List.drop_append_of_le_length hle2]; simp
  have hrun := ybf (P := P) (w := w) (off := off) hty hti h1 h2.one (by rw [h2.len]; exact hsz) h3 (by rw [List.length_append]; omega)
  rw [hov] at hrun
  obtain ⟨le, hK⟩ := r.2.1.turn (ob := .cells ((vs.take off ++ us ++ vs.drop (off + us.length)) ++ rest).toArray e (0, 0)) h3 (.inl (List.mem_of_getElem? hb))
  have hinv := r.2.1.setArr (e := e) (rest := rest) h3 hb (RCells.overlay ⟨h4, h5, h6⟩ h2 off) (by
   intro x hx
   simp only [overlay, List.mem_append] at hx
   rcases hx with (hx | hx) | hx
   ·exact hnl' x (List.mem_of_mem_take hx)
   ·exact AV.noLs_iff.1 hnl x hx
   ·exact hnl' x (List.mem_of_mem_drop hx))
  have r' := r.later (σ' := { s.σ with objs := s.σ.objs.set i (.arr (overlay cs off ds)) }) (L' := s.L) le (fun _ _ h => h) hinv rfl rfl hK (by rw [yP]; exact Nat.le_refl _) rfl rfl rfl
  unfold opW
  have : (execOp a.eval o).run P w = .ok .skip (zk w b (.cells ((vs.take off ++ us ++ vs.drop (off + us.length)) ++ rest).toArray e (0, 0))) := by
   simp only [execOp, ho, hpv, Sem.run_bind, hrun, Result.andThen_ok, Sem.run_pure]
  rw [this]
  exact hnx _ _ _ hn ⟨g, r'.put .junk hd⟩
end
end Go.Aw

namespace Go.Aw
open Go
def zG : AV → Option PV
 | .pv p => some p
 | .full xs => some (.slice xs)
 | .acc xs _ => some (.slice xs)
 | _ => none

def nrm0 : PV → PV
 | .nils => .slice []
 | p => p

def PV.nrm : PV → PV
 | .agg ps => .agg (ps.map nrm0)
 | p => p

def toPV : AV → Option PV
 | .agg cs => (cs.mapM zG).map fun ps => (PV.agg ps).nrm
 | x => (zG x).map PV.nrm

theorem RP.nrm0 {B : Nat} {S : Nat → Nat → Prop} {w : World} {p : PV} {v : Value} (h : RP B S w p v) : RP B S w (Aw.nrm0 p) v := by
 unfold Aw.nrm0
 split
 ·cases h; exact .empty
 ·exact h

theorem RP.nrm {B : Nat} {S : Nat → Nat → Prop} {w : World} {p : PV} {v : Value} (h : RP B S w p v) : RP B S w p.nrm v := by
 unfold PV.nrm
 split
 ·cases h with
  | agg hl h1 hr =>
   refine .agg (by simpa using hl) h1 (fun i x v hx hv => ?_)
   simp only [List.getElem?_map, Option.map_eq_some_iff] at hx
   obtain ⟨y, hy, rfl⟩ := hx
   exact (hr i y v hy hv).nrm0
 ·exact h

def Y0 (sz : Nat) : Nat → List (Nat × AV) → Option (List PV)
 | _, [] => some []
 | k, (i, x) :: r => if i = k then (toPV x).bind fun p => if p.cells.length = sz then (Y0 sz (k + 1) r).map (p :: ·) else none else none

section
variable {P : Program} {ty : TyT} {g0 g : Ghost} {σ0 : Store} {w0 w : World} {N : Nat} {s : St} {a : Act} {o : Oper} {x : AV} {next : St → Prop} {tk : List Tok}
theorem RA.atomToPV {y : AV} {v : Value} {p : PV} (h : RA g tk w y v) (hp : Aw.zG y = some p) : RP g.B g.S w p v := by
 cases h <;> simp [Aw.zG] at hp <;> subst hp <;> assumption

theorem RA.toPV {y : AV} {v : Value} {p : PV} (h : RA g tk w y v) (hp : Aw.toPV y = some p) : RP g.B g.S w p v := by
 cases hy : y with
 | agg cs =>
  subst hy
  simp only [Aw.toPV] at hp
  obtain ⟨ps, hps, rfl⟩ := Option.map_eq_some_iff.1 hp
  obtain ⟨h1, h2⟩ := Z0 _ _ _ hps
  cases h with
  | agg hl h3 hr =>
   refine RP.nrm (.agg ?_ h3 ?_)
   ·rw [hl, h1]
   ·intro i x v hx hv
    have hlt : i < cs.length := by rw [← h1]; exact (List.getElem?_eq_some_iff.1 hx).1
    exact (hr i cs[i] v (by simp) hv).atomToPV (h2 i cs[i] x (by simp) hx)
 | _ =>
  subst hy
  simp only [Aw.toPV, Option.map_eq_some_iff] at hp
  obtain ⟨p', hp', rfl⟩ := hp
  exact (h.atomToPV hp').nrm

theorem yfr (p : PV) : (AV.pv p).cells = some (p.cells.map .pv) := by cases p <;> rfl

theorem yhm {sz : Nat} : ∀ {l : List (Nat × AV)} {k : Nat} {ps : List PV}, Y0 sz k l = some ps → ps.length = l.length ∧ (∀ p, p ∈ ps → p.cells.length = sz) ∧ (∀ (i : Nat) y, l[i]? = some y → y.1 = k + i) ∧ ∀ (i : Nat) y p, l[i]? = some y → ps[i]? = some p → toPV y.2 = some p
 | [], k, ps, h => by simp [Y0] at h; subst h; simp
 | (j, x) :: r, k, ps, h => by
  simp only [Y0] at h
  split at h
  ·obtain ⟨p, hp, h⟩ := Option.bind_eq_some_iff.1 h
   split at h
   ·obtain ⟨qs, hqs, rfl⟩ := Option.map_eq_some_iff.1 h
    obtain ⟨i1, i2, i3, i4⟩ := yhm hqs
    subst_vars
    refine ⟨by simp [i1], fun q hq => ?_, fun i y hy => ?_, fun i y q hy hq => ?_⟩
    ·rcases List.mem_cons.1 hq with rfl | hq
     ·first | assumption | rfl
     ·exact i2 q hq
    ·cases i with
     | zero => simp at hy; subst hy; rfl
     | succ i => simp at hy; have := i3 i y hy; omega
    ·cases i with
     | zero => simp at hy hq; subst hy; subst hq; exact hp
     | succ i => simp at hy hq; exact i4 i y q hy hq
   ·cases h
  ·cases h

theorem yfL {sz : Nat} : ∀ (ps : List PV) (k : Nat) (cs : List AV), (∀ p, p ∈ ps → p.cells.length = sz) → cs.length = (k + ps.length) * sz →
  Y7 (fun i => some (i * sz, sz)) cs (ps.zipIdx k |>.map fun q => (q.2, AV.pv q.1)) = some (cs.take (k * sz) ++ (flat ps).map .pv)
 | [], k, cs, _, hl => by
  simp at hl
  simp [Y7, flat, hl]
  exact (List.take_of_length_le (by omega)).symm
 | p :: ps, k, cs, h, hl => by
  have hp := h p (by simp)
  simp only [List.length_cons] at hl
  have hks : k * sz + sz ≤ cs.length := by rw [hl, Nat.add_mul, Nat.add_mul]; omega
  simp only [List.zipIdx_cons, List.map_cons, Y7, yfr]
  rw [if_pos ⟨by simp [hp], hks⟩]
  have hlen : (cs.take (k * sz) ++ p.cells.map AV.pv ++ cs.drop (k * sz + sz)).length = (k + 1 + ps.length) * sz := by
   simp only [List.length_append, List.length_take, List.length_map, List.length_drop, hp]
   rw [hl]
   have : (k + (ps.length + 1)) * sz = (k + 1 + ps.length) * sz := by congr 1; omega
   rw [this] at hl ⊢
   omega
  rw [yfL ps (k + 1) _ (fun q hq => h q (by simp [hq])) hlen]
  have h1 : (cs.take (k * sz) ++ p.cells.map AV.pv).length = (k + 1) * sz := by
   simp only [List.length_append, List.length_take, List.length_map, hp]; rw [Nat.add_mul]; omega
  rw [List.take_append_of_le_length (by omega), List.take_of_length_le (by omega)]
  simp [flat]

theorem yeM (xs ys : List PV) : flat (xs ++ ys) = flat xs ++ flat ys := by simp [flat]

theorem RP.row {B : Nat} {S : Nat → Nat → Prop} {ps : List PV} {b cap sz : Nat} {us rest : List Value} {e : TypeId} (hsz : ∀ p, p ∈ ps → p.cells.length = sz) (hr : ∀ (i : Nat) x v, (flat ps)[i]? = some x → us[i]? = some v → RP B S w x v)
  (hl : us.length = (flat ps).length) (h1 : ∀ u, u ∈ us → u.oneCell' = true) (hb : w.heap[b]? = some (.cells (us ++ rest).toArray e (0, 0))) (hS : ∀ o, o < us.length → S b o) (hc : ps.length ≤ cap) :
  RP B S w (.slice ps) (.slice (some ⟨b, 0, none⟩) ps.length cap) := by
 refine .slice hsz (vs := us) (by rw [hl, z6 hsz]) hc (fun i v hv => ?_) hr
 have hlt : i < us.length := (List.getElem?_eq_some_iff.1 hv).1
 refine ⟨.inr (by rw [Nat.zero_add]; exact hS i hlt), ?_, h1 v (List.mem_of_getElem? hv)⟩
 rw [zg hb, Nat.zero_add]
 simp only [List.getElem?_toArray]
 rw [List.getElem?_append_left hlt]; exact hv

theorem ygE (hty : TyOk P ty) {t e : TypeId} {ti te : TyI} {len : Nat} {parts : List (Nat × AV)} {vparts : List (Nat × Value)} {ps : List PV} (hti : ty t = some ti) (hk : ti.kind = .slice e) (hte : ty e = some te)
  (hp : Y0 te.size 0 parts = some ps) (hlen : ps.length = len) (hbig : len * te.size ≤ 16777216)
  (h1 : parts.map (·.1) = vparts.map (·.1)) (h2 : ∀ (i : Nat) x v, parts[i]? = some x → vparts[i]? = some v → RA g tk w x.2 v.2) :
  ∃ us : List Value, (Instr.buildSlice t len vparts.toArray).run P w = .ok (.slice (some ⟨w.heap.size, 0, none⟩) len len) (w.alloc (.cells us.toArray e)) ∧ RCells g tk w ((flat ps).map .pv) us ∧ ∀ p, p ∈ ps → p.cells.length = te.size := by
 obtain ⟨i1, i2, i3, i4⟩ := yhm hp
 obtain ⟨i, z, h7, h8, h9, h10, h11, h12, h13⟩ := (hty _ _ hte).info
 have hzc : RCells g tk w (te.zero.map .pv) z.cells.toList := Yt h11
 have hze : RCells g tk w (List.replicate (len * te.size) .junk) ((List.range (len * te.size)).map fun j => z.cells[j % z.cells.size]!) := by
  refine ⟨by simp, fun v hv => ?_, fun i x v hx hv => ?_⟩
  ·obtain ⟨j, hj, rfl⟩ := List.mem_map.1 hv
   simp only [List.mem_range] at hj
   have hpos : 0 < z.cells.size := by
    rw [h12]
    rcases Nat.eq_zero_or_pos te.size with h | h
    ·rw [h] at hj; simp at hj
    ·exact h
   have hm : j % z.cells.size < z.cells.size := Nat.mod_lt _ hpos
   rw [getElem!_pos z.cells _ hm]
   exact hzc.one _ (by simp)
  ·simp only [List.getElem?_replicate] at hx
   split at hx
   ·cases hx; exact .junk
   ·cases hx
 have hparts : (ps.zipIdx 0 |>.map fun q => (q.2, AV.pv q.1)).map (·.1) = vparts.map (·.1) := by
  rw [← h1]
  apply List.ext_getElem?
  intro j
  simp only [List.getElem?_map, List.getElem?_zipIdx]
  by_cases hj : j < ps.length
  ·have hj' : j < parts.length := by omega
   have := i3 j parts[j] (by simp)
   simp [hj, hj', this]
  ·have hj' : ¬ j < parts.length := by omega
   rw [List.getElem?_eq_none (by omega), List.getElem?_eq_none (by omega)]; rfl
 have hfill := yfL ps 0 (List.replicate (len * te.size) .junk) i2 (by simp [hlen])
 simp only [Nat.zero_mul, List.take_zero, List.nil_append] at hfill
 obtain ⟨us, h14, h15⟩ := yaX (fun i => some (i * te.size, te.size)) _ vparts _ _ _ hze hparts (fun j x v hx hv => by
  simp only [List.getElem?_map, List.getElem?_zipIdx, Option.map_map, Option.map_eq_some_iff] at hx
  obtain ⟨p, hpj, rfl⟩ := hx
  have hj' : j < parts.length := by rw [← i1]; exact (List.getElem?_eq_some_iff.1 hpj).1
  exact .pv ((h2 j parts[j] v (by simp) hv).toPV (i4 j parts[j] p (by simp) hpj))) hfill
 refine ⟨us, ?_, h15, i2⟩
 have hs := (hty _ _ hte).run_size w
 have hu := (hty _ _ hti).slice hk
 simp only [Instr.buildSlice, Sem.run_bind, run_underlying hu, Result.andThen_ok, hs]
 rw [if_neg (by omega)]
 by_cases h0 : len * te.size = 0
 ·have he : (Array.map (fun x => (#[] : Array Value)[x % (#[] : Array Value).size]!) (Array.range (len * te.size))) = ((List.range (len * te.size)).map fun j => z.cells[j % z.cells.size]!).toArray := by
   rw [h0]; apply Array.ext'; simp
  simp only [if_pos h0, Sem.run_pure, Result.andThen_ok, Sem.run_bind, he, h14]
  simp [newRow]
 ·have he : (Array.map (fun x => z.cells[x % z.cells.size]!) (Array.range (len * te.size))) = ((List.range (len * te.size)).map fun j => z.cells[j % z.cells.size]!).toArray := by
   apply Array.ext'; simp
  simp only [if_neg h0, Sem.run_pure, Result.andThen_ok, Sem.run_bind, zeroValue, typeInfo, run_program, h7, h10, he, h14]
  simp [newRow]

theorem ycu (hty : TyOk P ty) {t e : TypeId} {ti te : TyI} {len : Nat} {parts : Array (Nat × Operand)} {ps : List PV} (ho : o.op = .buildSlice t len parts) (hti : ty t = some ti) (hk : ti.kind = .slice e) (hte : ty e = some te)
  (hp : Y0 te.size 0 (parts.toList.map fun q => (q.1, ev s q.2)) = some ps) (hlen : ps.length = len) (hbig : len * te.size ≤ 16777216) (hd : yJ N o.dst = true) (hn : next (s.put o.dst (.full ps))) : AOp P σ0 N o next s := by
 rintro g0 w0 a w nx Q ⟨g, r⟩ hnx
 obtain ⟨us, h1, h2, h3⟩ := ygE (P := P) (w := w) (vparts := parts.toList.map fun q => (q.1, a.eval q.2)) hty hti hk hte hp hlen hbig (by simp) (fun i x v hx hv => by
  simp only [List.getElem?_map, Option.map_eq_some_iff] at hx hv
  obtain ⟨p, hp, rfl⟩ := hx
  obtain ⟨q, hq, rfl⟩ := hv
  rw [hp] at hq; cases hq
  exact r.ev p.2)
 have hparts : (parts.toList.map fun q => (q.1, a.eval q.2)).toArray = parts.map fun q => (q.1, a.eval q.2) := Array.ext' (by simp)
 rw [hparts] at h1
 obtain ⟨r1, f⟩ := r.alloc (.cells us.toArray e)
 have r2 := r1.addS f fun _ => True
 unfold opW
 have : (execOp a.eval o).run P w = .ok (.value (.slice (some ⟨w.heap.size, 0, none⟩) len len)) (w.alloc (.cells us.toArray e)) := by
  simp only [execOp, ho, Sem.run_bind, h1, Result.andThen_ok, Sem.run_pure]
 rw [this]
 refine hnx _ _ _ hn ⟨_, r2.put (.full ?_) hd⟩
 subst hlen
 refine RP.row (us := us) (rest := []) (sz := te.size) (e := e) h3 (fun i x v hx hv => ?_) (by rw [h2.len]; simp) h2.one (by rw [zI]; simp) (fun o _ => .inr ⟨rfl, trivial⟩) (Nat.le_refl _)
 have hra := (h2.all i (.pv x) v (by simp [hx]) hv).alloc r.2.1 (.cells us.toArray e)
 have := (r1.2.1.addS f fun _ => True).2
 exact (hra.mono this (fun _ _ h => h)).pv_inv
end
end Go.Aw

namespace Go.Aw
open Go
section
variable {P : Program} {ty : TyT} {g0 g : Ghost} {σ0 : Store} {w0 w : World} {N : Nat} {s : St} {a : Act} {o : Oper} {x : AV} {next : St → Prop} {tk : List Tok} {L : List (List AV)} {σ : Store}
def Store.tok (σ : Store) (k : Nat) (n : Nat) : Store := { σ with toks := σ.toks.modify k fun t => { t with n := n } }

theorem RP.row_cells {B : Nat} {S : Nat → Nat → Prop} {xs : List PV} {v : Value} {sz : Nat} (h : RP B S w (.slice xs) v) (hsz : ∀ x, x ∈ xs → x.cells.length = sz) :
  ∃ (ad : Option Addr) (c : Nat) (vs : List Value), v = .slice ad xs.length c ∧ xs.length ≤ c ∧ vs.length = xs.length * sz ∧ (∀ u, u ∈ vs → u.oneCell' = true) ∧ (∀ (i : Nat) x u, (flat xs)[i]? = some x → vs[i]? = some u → RP B S w x u) ∧
   (∀ (i : Nat) u, vs[i]? = some u → ∃ b off, ad = some ⟨b, off, none⟩ ∧ (b < B ∨ S b (off + i)) ∧ w.cell? ⟨b, off + i, none⟩ = some u) ∧ (xs ≠ [] → ∃ b off, ad = some ⟨b, off, none⟩) := by
 cases h with
 | empty => exact ⟨_, _, [], rfl, by simp, by simp, by simp, fun i x u hx hu => by simp at hu, fun i u hu => by simp at hu, fun h => absurd rfl h⟩
 | slice hsz' hl hcap hc hr =>
  rename_i b off cap sz' vs
  refine ⟨_, _, vs, rfl, hcap, ?_, fun u hu => ?_, hr, fun i u hu => ⟨b, off, rfl, (hc i u hu).1, (hc i u hu).2.1⟩, fun _ => ⟨b, off, rfl⟩⟩
  ·rw [hl, ← z6 hsz', z6 hsz]
  ·obtain ⟨i, hi, rfl⟩ := List.getElem_of_mem hu
   exact (hc i _ (by simp)).2.2

theorem getElem?_modify' {l : List Tok} {k j : Nat} {f : Tok → Tok} : (l.modify k f)[j]? = if k = j then (l[j]?).map f else l[j]? := by
 rw [List.getElem?_modify]; split <;> simp

theorem Inv.newRow (h : Inv g σ L w) {k : Nat} {t : Tok} (hk : σ.toks[k]? = some t) {b cap n : Nat} (f : Fresh g w b) {cur : Array Value} (hb : w.heap[b]? = some (.cells cur t.e (0, 0))) (hsz : cur.size = cap * t.sz) (hn : n ≤ cap) (hm : cap ≤ maxLen) (hlt : t.n < n) :
  Inv { g with tb := g.tb.set k (some ⟨b, cap⟩), S := fun c o => g.S c o ∨ (c = b ∧ o < n * t.sz) } (σ.tok k n) L w ∧
   Le g σ.toks w { g with tb := g.tb.set k (some ⟨b, cap⟩), S := fun c o => g.S c o ∨ (c = b ∧ o < n * t.sz) } (σ.tok k n).toks w := by
 have hkl : k < g.tb.length := by rw [h.ltb]; exact (List.getElem?_eq_some_iff.1 hk).1
 have hks : Keeps g.B g.S (fun c o => g.S c o ∨ (c = b ∧ o < n * t.sz)) w w := ⟨fun _ _ h => .inl h, fun _ _ _ => rfl, fun _ _ => rfl⟩
 have le : Le g σ.toks w { g with tb := g.tb.set k (some ⟨b, cap⟩), S := fun c o => g.S c o ∨ (c = b ∧ o < n * t.sz) } (σ.tok k n).toks w := by
  refine ⟨rfl, hks, fun _ _ h => h, fun j t' hj => ?_⟩
  simp only [Store.tok, getElem?_modify', hj]
  split
  ·subst_vars
   rw [hk] at hj; cases hj
   exact ⟨_, rfl, rfl, rfl, Nat.le_of_lt hlt, fun e => by simp only at e; omega⟩
  ·refine ⟨t', rfl, rfl, rfl, Nat.le_refl _, fun _ => ?_⟩
   simp [List.getElem?_set, ‹¬ k = j›]
 have ho := f.own
 simp only [Ghost.owned, List.mem_append, not_or] at ho
 have hsub : ∀ c, c ∈ (g.tb.set k (some ⟨b, cap⟩)).filterMap (fun o => o.map (·.b)) → c ∈ g.tb.filterMap (fun o => o.map (·.b)) ∨ c = b := by
  intro c hc
  obtain ⟨q, hq, hq2⟩ := List.mem_filterMap.1 hc
  rcases List.mem_or_eq_of_mem_set hq with hq | rfl
  ·exact .inl (List.mem_filterMap.2 ⟨q, hq, hq2⟩)
  ·simp at hq2; exact .inr hq2.symm
 have hnd : ((g.tb.set k (some ⟨b, cap⟩)).filterMap (fun o => o.map (·.b))).Nodup := by
  have hn := (List.nodup_append.1 h.nodup).2.1
  have : ∀ (l : List (Option TokB)) (j : Nat), (l.filterMap fun o => o.map (·.b)).Nodup → b ∉ l.filterMap (fun o => o.map (·.b)) → ((l.set j (some ⟨b, cap⟩)).filterMap fun o => o.map (·.b)).Nodup := by
   intro l
   induction l with
   | nil => intro j _ _; simp
   | cons q l ih =>
    intro j h1 h2
    cases j with
    | zero =>
     simp only [List.set_cons_zero, List.filterMap_cons, Option.map_some] at *
     cases q with
     | none => simp at h1 h2; exact List.nodup_cons.2 ⟨by simpa using h2, h1⟩
     | some q =>
      simp only [Option.map_some, List.nodup_cons, List.mem_cons, not_or] at h1 h2
      exact List.nodup_cons.2 ⟨h2.2, h1.2⟩
    | succ j =>
     cases q with
     | none => simp only [List.set_cons_succ, List.filterMap_cons, Option.map_none] at *; exact ih j h1 h2
     | some q =>
      simp only [List.set_cons_succ, List.filterMap_cons, Option.map_some, List.nodup_cons, List.mem_cons, not_or] at *
      refine ⟨fun hm => ?_, ih j h1.2 h2.2⟩
      obtain ⟨q', hq', hq2⟩ := List.mem_filterMap.1 hm
      rcases List.mem_or_eq_of_mem_set hq' with hq' | rfl
      ·exact h1.1 (List.mem_filterMap.2 ⟨q', hq', hq2⟩)
      ·simp at hq2; exact h2.1 hq2
  exact this _ _ hn ho.2
 refine ⟨⟨h.lio, h.llam, by simp [h.ltb, Store.tok], fun m p hp => (h.glob m p hp).mono hks, ?_, fun c hc => ?_, fun c hK => ⟨(h.kept c hK).1, ?_⟩, h.base, fun c o hS => ?_, fun o' ob c h1 hio => (h.objs o' ob c h1 hio).mono le (fun _ _ h => h) rfl, fun i cs' c hL hlm => (h.priv i cs' c hL hlm).mono le (fun _ _ h => h) rfl, fun j t' tb ht htb => ?_⟩, le⟩
 ·have hn := List.nodup_append.1 h.nodup
  simp only [Ghost.owned]
  refine List.nodup_append.2 ⟨hn.1, hnd, fun c hc d hd => ?_⟩
  rcases hsub d hd with hd | rfl
  ·exact hn.2.2 c hc d hd
  ·rintro rfl
   rcases List.mem_append.1 hc with hc | hc
   ·exact ho.1.1 hc
   ·exact ho.1.2 hc
 ·simp only [Ghost.owned] at hc
  rcases List.mem_append.1 hc with hc | hc
  ·exact h.low c (by simp only [Ghost.owned]; exact List.mem_append_left _ hc)
  ·rcases hsub c hc with hc | rfl
   ·exact h.low c (by simp only [Ghost.owned]; exact List.mem_append_right _ hc)
   ·exact ⟨f.low, f.lt, f.K⟩
 ·rintro o (hS | ⟨rfl, _⟩)
  ·exact (h.kept c hK).2 o hS
  ·exact f.K hK
 ·rcases hS with hS | ⟨rfl, _⟩
  ·exact h.cells c o hS
  ·exact ⟨f.low, f.lt, ho.1.1, ho.1.2⟩
 ·simp only [Store.tok, getElem?_modify'] at ht
  simp only [List.getElem?_set] at htb
  split at ht
  ·subst_vars
   rw [if_pos rfl, if_pos hkl] at htb
   cases htb
   rw [hk] at ht; cases ht
   refine ⟨cur, hb, hsz, hn, hm, fun o hS => ?_⟩
   rcases hS with hS | ⟨_, hS⟩
   ·exact absurd hS (f.S o)
   ·exact hS
  ·rw [if_neg ‹_›] at htb
   obtain ⟨cur', h1, h2, h3, h4, h5⟩ := h.toks j t' tb ht htb
   refine ⟨cur', h1, h2, h3, h4, fun o hS => ?_⟩
   rcases hS with hS | ⟨e, _⟩
   ·exact h5 o hS
   ·have hm : tb.b ∈ g.tb.filterMap fun o => o.map (·.b) := List.mem_filterMap.2 ⟨some tb, List.mem_of_getElem? htb, rfl⟩
    exact absurd hm (e ▸ ho.2)

theorem Zw (w : World) (b : Nat) (cs : Array Value) : (w.setRow b cs).heap.size = w.heap.size := by simp [World.setRow]

theorem Inv.moreRow (h : Inv g σ L w) {k : Nat} {t : Tok} (hk : σ.toks[k]? = some t) {tb : TokB} (htb : g.tb[k]? = some (some tb)) {cur new : Array Value} (hb : w.heap[tb.b]? = some (.cells cur t.e (0, 0))) (hsz : new.size = cur.size) {n : Nat} (hn : n ≤ tb.cap) (hlt : t.n < n)
  (hsame : ∀ i, i < t.n * t.sz → new[i]? = cur[i]?) :
  Inv { g with S := fun c o => g.S c o ∨ (c = tb.b ∧ o < n * t.sz) } (σ.tok k n) L (w.setRow tb.b new) ∧
   Le g σ.toks w { g with S := fun c o => g.S c o ∨ (c = tb.b ∧ o < n * t.sz) } (σ.tok k n).toks (w.setRow tb.b new) ∧ (∀ c, g.K c → (w.setRow tb.b new).heap[c]? = w.heap[c]?) := by
 obtain ⟨cur', h1, h2, h3, h4, h5⟩ := h.toks k t tb hk htb
 rw [hb] at h1; cases h1
 have hown := h.low _ (yi6 htb)
 have hother : ∀ c, c ≠ tb.b → (w.setRow tb.b new).heap[c]? = w.heap[c]? := fun c hc => setRow_other w tb.b c new hc
 have hrow := setRow_heap w tb.b cur new t.e (0, 0) hb
 have hks : Keeps g.B g.S (fun c o => g.S c o ∨ (c = tb.b ∧ o < n * t.sz)) w (w.setRow tb.b new) := by
  refine ⟨fun _ _ h => .inl h, fun c o hc => ?_, fun c hc => hother c (by omega)⟩
  by_cases he : c = tb.b
  ·subst he
   rcases hc with hc | hc
   ·omega
   ·rw [zg hrow, zg hb]
    exact hsame o (h5 o hc)
  ·exact World.cell?_of_block (w := w) (a := ⟨c, o, none⟩) (hother c he)
 have le : Le g σ.toks w { g with S := fun c o => g.S c o ∨ (c = tb.b ∧ o < n * t.sz) } (σ.tok k n).toks (w.setRow tb.b new) := by
  refine ⟨rfl, hks, fun _ _ h => h, fun j t' hj => ?_⟩
  simp only [Store.tok, getElem?_modify', hj]
  split
  ·subst_vars
   rw [hk] at hj; cases hj
   exact ⟨_, rfl, rfl, rfl, Nat.le_of_lt hlt, fun e => by simp only at e; omega⟩
  ·exact ⟨t', rfl, rfl, rfl, Nat.le_refl _, fun _ => by first | trivial | rfl⟩
 have ap := h.apart
 refine ⟨⟨h.lio, h.llam, by simp [h.ltb, Store.tok], fun m p hp => (h.glob m p hp).mono hks, h.nodup, fun c hc => by rw [Zw]; exact h.low c hc, fun c hK => ⟨by rw [Zw]; exact (h.kept c hK).1, ?_⟩, by rw [Zw]; exact h.base, fun c o hS => ?_, fun o' ob c h1 hio => ?_, fun i cs' c hL hlm => ?_, fun j t' tb' ht htb' => ?_⟩, le, fun c hK => hother c ?_⟩
 ·rintro o (hS | ⟨rfl, _⟩)
  ·exact (h.kept c hK).2 o hS
  ·exact hown.2.2 hK
 ·rw [Zw]
  rcases hS with hS | ⟨rfl, _⟩
  ·exact h.cells c o hS
  ·exact ⟨hown.1, hown.2.1, (ap.2.2 k tb htb).1, (ap.2.2 k tb htb).2⟩
 ·refine (h.objs o' ob c h1 hio).mono le (fun _ _ h => h) (hother c ?_)
  rintro rfl; exact (ap.2.2 k tb htb).1 (List.mem_of_getElem? hio)
 ·refine (h.priv i cs' c hL hlm).mono le (fun _ _ h => h) (hother c ?_)
  rintro rfl; exact (ap.2.2 k tb htb).2 (List.mem_of_getElem? hlm)
 ·simp only [Store.tok, getElem?_modify'] at ht
  split at ht
  ·subst_vars
   rw [htb] at htb'; cases htb'
   rw [hk] at ht; cases ht
   refine ⟨new, hrow, by rw [hsz]; exact h2, hn, h4, fun o hS => ?_⟩
   rcases hS with hS | ⟨_, hS⟩
   ·exact Nat.lt_of_lt_of_le (h5 o hS) (Nat.mul_le_mul_right _ (Nat.le_of_lt hlt))
   ·exact hS
  ·obtain ⟨cur', h1', h2', h3', h4', h5'⟩ := h.toks j t' tb' ht htb'
   have hne : tb'.b ≠ tb.b := by
    intro he
    have hn := (List.nodup_append.1 h.nodup).2.1
    have : ∀ (l : List (Option TokB)) (i j : Nat) (p q : TokB), (l.filterMap fun o => o.map (·.b)).Nodup → l[i]? = some (some p) → l[j]? = some (some q) → p.b = q.b → i = j := by
     intro l
     induction l with
     | nil => intro i j p q _ hi; simp at hi
     | cons c l ih =>
      intro i j p q hnd hi hj hpq
      have hnd' : (l.filterMap fun o => o.map (·.b)).Nodup := by
       cases c with
       | none => simpa using hnd
       | some c => simp only [List.filterMap_cons, Option.map_some, List.nodup_cons] at hnd; exact hnd.2
      cases i with
      | zero =>
       cases j with
       | zero => rfl
       | succ j =>
        simp at hi hj
        subst hi
        simp only [List.filterMap_cons, Option.map_some, List.nodup_cons] at hnd
        have hm : q.b ∈ l.filterMap fun o => o.map (·.b) := List.mem_filterMap.2 ⟨some q, List.mem_of_getElem? hj, rfl⟩
        rw [← hpq] at hm
        exact absurd hm hnd.1
      | succ i =>
       cases j with
       | zero =>
        simp at hi hj
        subst hj
        simp only [List.filterMap_cons, Option.map_some, List.nodup_cons] at hnd
        have hm : p.b ∈ l.filterMap fun o => o.map (·.b) := List.mem_filterMap.2 ⟨some p, List.mem_of_getElem? hi, rfl⟩
        rw [hpq] at hm
        exact absurd hm hnd.1
       | succ j =>
        simp at hi hj
        rw [ih i j p q hnd' hi hj hpq]
    exact ‹¬ k = j› (this g.tb k j tb tb' hn htb htb' he.symm)
   refine ⟨cur', (hother _ hne).trans h1', h2', h3', h4', fun o hS => ?_⟩
   rcases hS with hS | ⟨e, _⟩
   ·exact h5' o hS
   ·exact absurd e hne
 ·rintro rfl; exact hown.2.2 hK

theorem yfG {t e : TypeId} {i : TypeInfo} (ht : P.underlying t = some (.slice e)) (hi : P.info? e = some i) (t' : TypeId) (b ad : Option Addr) (n c d : Nat) (hn : n ≤ c) :
  (Builtin.append_ #[t, t] t' #[.slice b n c, .slice ad 0 d]).run P w = .ok (.slice b n c) w := by
 cases b <;> cases ad <;> simp [Builtin.append_, run_underlying ht, sizeOf, typeInfo, hi, Builtin.lenOf, hn, Builtin.firstCells, loadCells, loadCellsFrom, storeCells]

theorem yj0 {l : List Tok} {k : Nat} {t : Tok} (h : l[k]? = some t) : (l.modify k fun u => { u with n := t.n }) = l := by
 apply List.ext_getElem?
 intro j
 rw [getElem?_modify']
 split
 ·subst_vars; rw [h]; rfl
 ·rfl

theorem yeN (hty : TyOk P ty) (h : Inv g σ L w) {t e : TypeId} {ti te : TyI} (hti : ty t = some ti) (hk : ti.kind = .slice e) (hte : ty e = some te) {xs ys : List PV} {k : Nat} {tok : Tok} (hkt : σ.toks[k]? = some tok) (hn : tok.n = xs.length) (he : tok.e = e) (hs : tok.sz = te.size)
  {v u : Value} (hv : RA g σ.toks w (.acc xs k) v) (hu : RP g.B g.S w (.slice ys) u) (hys : y4 te.size ys = true) (hb0 : 0 < te.bytes) (hbytes : (xs.length + ys.length) * te.bytes ≤ 140737488355328) (t' : TypeId) :
  ∃ v' w' g', (Builtin.append_ #[t, t] t' #[v, u]).run P w = .ok v' w' ∧ Inv g' (σ.tok k (xs.length + ys.length)) L w' ∧ Le g σ.toks w g' (σ.tok k (xs.length + ys.length)).toks w' ∧ g'.lam = g.lam ∧ g'.K = g.K ∧ (∀ c : Nat, g.K c → w'.heap[c]? = w.heap[c]?) ∧
   w.heap.size ≤ w'.heap.size ∧ w'.os = w.os ∧ w'.tape = w.tape ∧ w'.output = w.output ∧ RA g' (σ.tok k (xs.length + ys.length)).toks w' (.acc (xs ++ ys) k) v' := by
 obtain ⟨i, z, h7, h8, h9, h10, h11, h12, h13⟩ := (hty _ _ hte).info
 have hut := (hty _ _ hti).slice hk
 have hysz : ∀ x, x ∈ ys → x.cells.length = te.size := by
  simpa [y4] using hys
 cases hv with
 | acc hrp ht hle hsz ho =>
  rename_i tk0
  rw [hkt] at ht; cases ht
  have hxsz : ∀ x, x ∈ xs → x.cells.length = te.size := by rw [← hs]; exact hsz
  obtain ⟨ad, c, vs, rfl, hc, hvl, hv1, hvr, hvc, hva⟩ := hrp.row_cells hxsz
  obtain ⟨ad2, c2, us, rfl, hc2, hul, hu1, hur, huc, hua⟩ := hu.row_cells hysz
  by_cases hy0 : ys = []
  ·subst hy0
   have hst : σ.tok k (xs.length + ([] : List PV).length) = σ := by
    simp only [Store.tok, List.length_nil, Nat.add_zero, ← hn, yj0 hkt]
   rw [hst]
   refine ⟨_, w, g, yfG hut h7 t' ad ad2 _ _ _ hc, h, Le.refl _ _ _, rfl, rfl, fun _ _ => rfl, Nat.le_refl _, rfl, rfl, rfl, ?_⟩
   rw [List.append_nil]
   exact .acc hrp hkt hle hsz ho
  ·obtain ⟨b2, off2, rfl⟩ := hua hy0
   have hm0 : 0 < ys.length := List.length_pos_iff.2 hy0
   have hxsl : xs.length + ys.length ≤ 140737488355328 := by
    have : (xs.length + ys.length) * 1 ≤ (xs.length + ys.length) * te.bytes := Nat.mul_le_mul_left _ hb0
    omega
   have hnews : ∀ (j : Nat) (u : Value), us[j]? = some u → w.cell? ((⟨b2, off2, none⟩ : Addr).add j) = some u := by
    intro j u hj
    obtain ⟨b, off, hbo, h1, h2⟩ := huc j u hj
    cases hbo
    rw [y5]; exact h2
   have hall : ∀ (j : Nat) x u, (flat (xs ++ ys))[j]? = some x → (vs ++ us)[j]? = some u → RP g.B g.S w x u := by
    intro j x u hx hj
    rw [yeM] at hx
    have hfl : (flat xs).length = vs.length := by rw [hvl, z6 hxsz]
    by_cases hlt : j < vs.length
    ·rw [List.getElem?_append_left hlt] at hj
     rw [List.getElem?_append_left (by omega)] at hx
     exact hvr j x u hx hj
    ·rw [List.getElem?_append_right (by omega)] at hj hx
     rw [hfl] at hx
     exact hur _ x u hx hj
   have hall1 : ∀ u, u ∈ vs ++ us → u.oneCell' = true := fun u hu => (List.mem_append.1 hu).elim (hv1 u) (hu1 u)
   have hallsz : ∀ x, x ∈ xs ++ ys → x.cells.length = te.size := fun x hx => (List.mem_append.1 hx).elim (hxsz x) (hysz x)
   have hlen : (vs ++ us).length = (xs.length + ys.length) * te.size := by rw [List.length_append, hvl, hul, Nat.add_mul]
   have hflen : (vs ++ us).length = (flat (xs ++ ys)).length := by rw [hlen, z6 hallsz, List.length_append]
   -- a new row
   have grow : ∀ (cap0 : Nat) (v' : Value) (w' : World), cap0 < xs.length + ys.length →
     v' = .slice (some ⟨w.heap.size, 0, none⟩) (xs.length + ys.length) (grownCap w (xs.length + ys.length) cap0 e) →
     w' = (w.drew.alloc (.cells (vs.toArray ++ us.toArray ++ Builtin.zeroCells z.cells (grownCap w (xs.length + ys.length) cap0 e - (xs.length + ys.length))) e)) →
     ∃ g', Inv g' (σ.tok k (xs.length + ys.length)) L w' ∧ Le g σ.toks w g' (σ.tok k (xs.length + ys.length)).toks w' ∧ g'.lam = g.lam ∧ g'.K = g.K ∧ (∀ c : Nat, g.K c → w'.heap[c]? = w.heap[c]?) ∧
      w.heap.size ≤ w'.heap.size ∧ w'.os = w.os ∧ w'.tape = w.tape ∧ w'.output = w.output ∧ RA g' (σ.tok k (xs.length + ys.length)).toks w' (.acc (xs ++ ys) k) v' := by
    rintro cap0 _ _ hcap rfl rfl
    have hge := grownCap_ge w (xs.length + ys.length) cap0 e
    have hcm : grownCap w (xs.length + ys.length) cap0 e ≤ maxLen := grownCap_le_maxLen w _ cap0 e (by simp only [maxLen]; omega)
    generalize grownCap w (xs.length + ys.length) cap0 e = cap at hge hcm ⊢
    have hst := (h.drewN (w' := w.drew) rfl)
    have hal := hst.1.alloc (.cells (vs.toArray ++ us.toArray ++ Builtin.zeroCells z.cells (cap - (xs.length + ys.length))) e)
    have hfr := hst.1.fresh (.cells (vs.toArray ++ us.toArray ++ Builtin.zeroCells z.cells (cap - (xs.length + ys.length))) e)
    have hle0 := hst.2.trans hal.2
    have hhb : (w.drew.alloc (.cells (vs.toArray ++ us.toArray ++ Builtin.zeroCells z.cells (cap - (xs.length + ys.length))) e)).heap[w.heap.size]? = some (.cells (vs.toArray ++ us.toArray ++ Builtin.zeroCells z.cells (cap - (xs.length + ys.length))) e (0, 0)) := zI w.drew _
    generalize hW : w.drew.alloc (.cells (vs.toArray ++ us.toArray ++ Builtin.zeroCells z.cells (cap - (xs.length + ys.length))) e) = W at *
    have hnr := hal.1.newRow (k := k) (t := tok) (b := w.heap.size) (cap := cap) (n := xs.length + ys.length) hkt hfr (cur := vs.toArray ++ us.toArray ++ Builtin.zeroCells z.cells (cap - (xs.length + ys.length))) (by rw [he]; exact hhb)
     (by
      rw [hs]
      simp only [Array.size_append, List.size_toArray, size_zeroCells, h12]
      rw [hvl, hul, ← Nat.add_mul, ← Nat.add_mul]
      congr 1
      omega) hge hcm (by omega)
    refine ⟨_, hnr.1, hle0.trans hnr.2, rfl, rfl, fun c hc => ?_, ?_, ?_, ?_, ?_, ?_⟩
    ·rw [← hW]
     exact Go.RowKit.Below.heap_alloc w.drew _ c (h.kept c hc).1
    ·rw [← hW]; simp
    ·rw [← hW]; rfl
    ·rw [← hW]; rfl
    ·rw [← hW]; rfl
    ·refine .acc (t := { tok with n := xs.length + ys.length }) ?_ (by simp [Store.tok, getElem?_modify', hkt]) (by simp) (by rw [hs]; exact hallsz) (fun _ => .inl ⟨⟨w.heap.size, cap⟩, ?_, ?_⟩)
     ·have hkl : (hle0.trans hnr.2).keeps.mono = (hle0.trans hnr.2).keeps.mono := rfl
      have := RP.row (B := g.B) (S := fun c o => g.S c o ∨ (c = w.heap.size ∧ o < (xs.length + ys.length) * tok.sz)) (w := W) (ps := xs ++ ys) (b := w.heap.size) (cap := cap) (us := vs ++ us) (rest := (Builtin.zeroCells z.cells (cap - (xs.length + ys.length))).toList) (e := e) hallsz
       (fun j x u hx hj => (hall j x u hx hj).mono (hle0.trans hnr.2).keeps) hflen hall1 (by rw [hhb]; congr 2; apply Array.ext'; simp) (fun o ho => .inr ⟨rfl, by rw [hs, ← hlen]; exact ho⟩) (by rw [List.length_append]; exact hge)
      rw [List.length_append] at this
      exact this
     ·have hkl : k < g.tb.length := by rw [h.ltb]; exact (List.getElem?_eq_some_iff.1 hkt).1
      simp [hkl]
     ·rw [List.length_append]
   have growrun : ∀ cap0, cap0 < xs.length + ys.length → c = cap0 → (xs.length ≤ cap0) →
     (Builtin.append_ #[t, t] t' #[.slice ad xs.length c, .slice (some ⟨b2, off2, none⟩) ys.length c2]).run P w =
      .ok (.slice (some ⟨w.heap.size, 0, none⟩) (xs.length + ys.length) (grownCap w (xs.length + ys.length) cap0 e)) (w.drew.alloc (.cells (vs.toArray ++ us.toArray ++ Builtin.zeroCells z.cells (grownCap w (xs.length + ys.length) cap0 e - (xs.length + ys.length))) e)) ∨ (ad = none ∧ cap0 ≠ 0) := by
    rintro cap0 hcap rfl hlc
    have hfit := growslice_fits (need := xs.length + ys.length) (old := c) (bytes := i.bytes) hcap (by rw [h9]; exact hbytes)
    cases ad with
    | some ad =>
     refine .inl ?_
     refine run_append_grow (P := P) w t t' e i z hut h7 h10 ad xs.length c vs (by rw [h8]; exact hvl) (fun j u hj => ?_) ⟨b2, off2, none⟩ ys.length c2 us (by rw [h8]; exact hul) hnews hcap (by omega) hfit
     obtain ⟨b, off, hbo, h1, h2⟩ := hvc j u hj
     cases hbo
     rw [y5]; exact h2
    | none =>
     have hx : xs = [] := by
      rcases Classical.em (xs = []) with hx | hx
      ·exact hx
      ·obtain ⟨b, off, hbo⟩ := hva hx; cases hbo
     subst hx
     have hvn : vs = [] := List.eq_nil_of_length_eq_zero (by simpa using hvl)
     subst hvn
     rcases Nat.eq_zero_or_pos c with hc0 | hc0
     ·subst hc0
      refine .inl ?_
      have := run_append_nil (P := P) w t t' e i z hut h7 h10 ⟨b2, off2, none⟩ ys.length c2 us (by rw [h8]; exact hul) hnews hm0 (by simp at hxsl; omega) (by rw [h9]; simp at hbytes; omega)
      simpa using this
     ·exact .inr ⟨rfl, by omega⟩
   rcases ho hn with ⟨tb, h1, h2⟩ | ⟨ad', h1⟩
   ·cases h2
    obtain ⟨cur, k1, k2, k3, k4, k5⟩ := h.toks k tok tb hkt h1
    by_cases hroom : xs.length + ys.length ≤ tb.cap
    ·have hcurv : ∀ (j : Nat) u, vs[j]? = some u → cur[j]? = some u := by
      intro j u hj
      obtain ⟨b, off, hbo, h1', h2'⟩ := hvc j u hj
      cases hbo
      rw [zg k1, Nat.zero_add] at h2'
      exact h2'
     have hfit : xs.length * i.size + us.length ≤ cur.size := by
      rw [h8, hul, k2, hs, ← Nat.add_mul]; exact Nat.mul_le_mul_right _ hroom
     have hrun := run_append_room (P := P) w t t' e i hut h7 tb.b xs.length tb.cap cur (by rw [← he]; exact k1) ⟨b2, off2, none⟩ ys.length c2 us (by rw [h8]; exact hul) hnews hu1 hroom hfit
     rw [h8] at hrun hfit
     have htk : cur.toList.take (xs.length * te.size) = vs := by
      apply List.ext_getElem?
      intro j
      rw [List.getElem?_take]
      split
      ·have hj : j < vs.length := by omega
       have := hcurv j vs[j] (by simp)
       rw [List.getElem?_eq_getElem hj]
       simpa using this
      ·rw [List.getElem?_eq_none (by omega)]
     rw [htk] at hrun
     have hnewsz : (vs ++ us ++ cur.toList.drop (xs.length * te.size + us.length)).toArray.size = cur.size := by
      simp only [List.size_toArray, List.length_append, List.length_drop, Array.length_toList]; omega
     have hmr := h.moreRow (k := k) (t := tok) hkt (tb := tb) h1 (cur := cur) (new := (vs ++ us ++ cur.toList.drop (xs.length * te.size + us.length)).toArray) k1 hnewsz (n := xs.length + ys.length) hroom (by omega) (fun j hj => by
      have hj' : j < vs.length := by rw [hvl, ← hn, ← hs]; exact hj
      have h5 := hcurv j vs[j] (by simp)
      rw [h5]
      simp [List.getElem?_append_left, hj'])
     have hrow := setRow_heap w tb.b cur (vs ++ us ++ cur.toList.drop (xs.length * te.size + us.length)).toArray tok.e (0, 0) k1
     refine ⟨_, _, _, hrun, hmr.1, hmr.2.1, rfl, rfl, hmr.2.2, by rw [Zw]; exact Nat.le_refl _, rfl, rfl, rfl, ?_⟩
     refine .acc (t := { tok with n := xs.length + ys.length }) ?_ (by simp [Store.tok, getElem?_modify', hkt]) (by simp) (by rw [hs]; exact hallsz) (fun _ => .inl ⟨tb, h1, by rw [List.length_append]⟩)
     have := RP.row (B := g.B) (S := fun c o => g.S c o ∨ (c = tb.b ∧ o < (xs.length + ys.length) * tok.sz)) (w := w.setRow tb.b (vs ++ us ++ cur.toList.drop (xs.length * te.size + us.length)).toArray) (ps := xs ++ ys) (b := tb.b) (cap := tb.cap) (us := vs ++ us) (rest := cur.toList.drop (xs.length * te.size + us.length)) (e := tok.e) hallsz
      (fun j x u hx hj => (hall j x u hx hj).mono hmr.2.1.keeps) hflen hall1 hrow (fun o ho => .inr ⟨rfl, by rw [hs, ← hlen]; exact ho⟩) (by rw [List.length_append]; exact hroom)
     rw [List.length_append] at this
     exact this
    ·rcases growrun tb.cap (by omega) rfl (by omega) with hr | ⟨hx, _⟩
     ·obtain ⟨g', hg'⟩ := grow tb.cap _ _ (by omega) rfl rfl
      exact ⟨_, _, g', hr, hg'⟩
     ·cases hx
   ·cases h1
    rcases growrun xs.length (by omega) rfl (Nat.le_refl _) with hr | ⟨hx, hx2⟩
    ·obtain ⟨g', hg'⟩ := grow xs.length _ _ (by omega) rfl rfl
     exact ⟨_, _, g', hr, hg'⟩
    ·exfalso
     subst hx
     have : xs ≠ [] := by rintro rfl; exact hx2 rfl
     obtain ⟨b, off, hbo⟩ := hva this
     cases hbo
end
end Go.Aw
