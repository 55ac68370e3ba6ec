/- The abstract logic, A: values, states, what they mean, and the plain operations. -/
import Derived.WalkKit
import Derived.WalkLawsBesides
import Derived.WalkSpells
import Derived.Laws.AppendOwn
import Derived.Laws.StructEq
import Derived.Maps.Keyed
set_option linter.unusedVariables false
set_option linter.unusedSimpArgs false
set_option linter.unusedSectionVars false
/-
  The abstract logic, part 1: abstract values, what they stand for in memory, the state of a call.
-/
namespace Go.AL
open Go

/-- Who may append to a slice: nobody knows; there is no room behind it; the bearer of a token. -/
inductive Own where
  | no
  | full
  | tok (t : Nat) deriving DecidableEq

/-- The value of one cell of memory. A slice is the list of its elements, each the list of its cells. -/
inductive DV where
  | int (k : IntKind) (n : Int)
  | bool (b : Bool)
  | str (s : List UInt8)
  | sl (sz : Nat) (xs : List (List DV)) (own : Own)
  | pin (c : DV) (v : Value)

inductive AV where
  | d (c : DV)
  | agg (cs : List DV)
  | ptr (o off : Nat)
  | elem (cs : List DV)
  | arr (o n sz : Nat)
  | map (o : Nat)
  | fn (f : Nat) (caps : List Nat)
  | tup (vs : List AV)
  | nilI
  | errI
  | nofn
  | unk

/-- What is known and will not change: block, place, value. -/
abbrev IH := Nat → Nat → Option Value
/-- The tokens: block, end of what is written, room. -/
abbrev TH := Nat → Option (Nat × Nat × Nat)

def OwnOK (τ : TH) (own : Own) (a : Option Addr) (n sz cap : Nat) : Prop :=
  match own with
  | .no => True
  | .full => cap = n
  | .tok t => cap = 0 ∨ ∃ b, τ t = some (b, n * sz, cap * sz) ∧ a = some ⟨b, 0, none⟩

inductive RepD (I : IH) (τ : TH) : DV → Value → Prop
  | int (k : IntKind) (n : Int) : RepD I τ (.int k n) (.int k n)
  | bool (b : Bool) : RepD I τ (.bool b) (.bool b)
  | str (s : List UInt8) (h : s.length ≤ 9223372036854775807) : RepD I τ (.str s) (.string ⟨s.toArray⟩)
  | sl (sz : Nat) (xs : List (List DV)) (own : Own) (a : Option Addr) (cap : Nat) (vals : Nat → Value)
      (hsz : ∀ x ∈ xs, x.length = sz) (hcap : xs.length ≤ cap) (hmax : cap ≤ 9223372036854775807)
      (hnil : a = none → cap = 0)
      (hadr : 0 < cap → ∀ adr, a = some adr → adr.spot = none)
      (hI : ∀ adr, a = some adr → ∀ (i : Nat) x (j : Nat) c, xs[i]? = some x → x[j]? = some c → I adr.block (adr.off + (i * sz + j)) = some (vals (i * sz + j)))
      (hrep : ∀ (i : Nat) x (j : Nat) c, xs[i]? = some x → x[j]? = some c → RepD I τ c (vals (i * sz + j)))
      (hown : OwnOK τ own a xs.length sz cap) : RepD I τ (.sl sz xs own) (.slice a xs.length cap)
  | pin (c : DV) (v : Value) (h : RepD I τ c v) : RepD I τ (.pin c v) v

def RepL (I : IH) (τ : TH) (cs : List DV) (vs : List Value) : Prop :=
  cs.length = vs.length ∧ ∀ (i : Nat) c v, cs[i]? = some c → vs[i]? = some v → RepD I τ c v

inductive RepA (I : IH) (τ : TH) (ρ : Nat → Nat) (n : Nat) : AV → Value → Prop
  | d (c : DV) (v : Value) (h : RepD I τ c v) : RepA I τ ρ n (.d c) v
  | agg (cs : List DV) (vs : List Value) (h : RepL I τ cs vs) : RepA I τ ρ n (.agg cs) (.agg vs.toArray)
  | ptr (o off : Nat) (h : o < n) : RepA I τ ρ n (.ptr o off) (.pointer (some ⟨ρ o, off, none⟩))
  | elem (cs : List DV) (vs : List Value) (adr : Addr) (hs : adr.spot = none) (h : RepL I τ cs vs)
      (hI : ∀ (j : Nat) v, vs[j]? = some v → I adr.block (adr.off + j) = some v) : RepA I τ ρ n (.elem cs) (.pointer (some adr))
  | arr (o m sz : Nat) (h : o < n) (hn : m ≤ 9223372036854775807) : RepA I τ ρ n (.arr o m sz) (.slice (some ⟨ρ o, 0, none⟩) m m)
  | map (o : Nat) (h : o < n) : RepA I τ ρ n (.map o) (.map (some (ρ o)))
  | fn (f : Nat) (caps : List Nat) (h : ∀ o ∈ caps, o < n) : RepA I τ ρ n (.fn f caps) (.func (.func f) #[] (caps.map fun o => Value.pointer (some ⟨ρ o, 0, none⟩)).toArray)
  | tup (vs : List AV) (ws : List Value) (hl : vs.length = ws.length)
      (h : ∀ (i : Nat) v w, vs[i]? = some v → ws[i]? = some w → RepA I τ ρ n v w) : RepA I τ ρ n (.tup vs) (.tuple ws.toArray)
  | nilI : RepA I τ ρ n .nilI .nilIface
  | errI (t : TypeId) (v : Value) : RepA I τ ρ n .errI (.iface t v)
  | nofn : RepA I τ ρ n .nofn .nilFunc
  | unk (v : Value) : RepA I τ ρ n .unk v

/-- What a variable of the call's own (or one handed in) holds. -/
inductive AO where
  | cells (cs : List DV)
  | map (es : List (DV × DV))
  | gone

def RepM (I : IH) (τ : TH) (es : List (DV × DV)) (ms : List MapEntry) : Prop :=
  es.length = ms.length ∧ ∀ (i : Nat) e m, es[i]? = some e → ms[i]? = some m → RepD I τ e.1 m.key ∧ RepD I τ e.2 m.val

def RepO (I : IH) (τ : TH) : AO → Option Obj → Prop
  | .cells cs, o => ∃ vs T, o = some (.cells (List.toArray vs) T (0, 0)) ∧ RepL I τ cs vs
  | .map es, o => ∃ ms clock, o = some (.map (List.toArray ms) clock) ∧ RepM I τ es ms
  | .gone, _ => True

/-- What is known of the program's own variables: a property of some blocks alone. -/
structure Glob where
  ok : World → (Nat → Prop) → Prop
  lend : Prop
  loc : ∀ (w w' : World) (S : Nat → Prop), (∀ b, S b → w'.heap[b]? = w.heap[b]?) → ok w S → ok w' S

set_option linter.unusedSectionVars false
/-- Nothing is known of them. -/
abbrev trivGlob : Inhabited Glob := ⟨{ ok := fun _ _ => True, lend := False, loc := fun _ _ _ _ h => h }⟩
set_option linter.unusedSectionVars false
variable [Inhabited Glob]

/-- What was there when the call began. 'gs': the blocks of the program's own variables; 'lb': rows that the call was lent, to be appended to. -/
structure Ent where
  w0 : World
  I0 : IH
  ρ0 : Nat → Nat
  τ0 : TH
  k : Nat
  nt0 : Nat
  n : Nat
  lb : Nat → Prop
  gs : Nat → Prop
  lbk : ¬(default : Glob).lend → ∀ b, ¬lb b
  gl : (default : Glob).ok w0 gs
  gb : ∀ b, gs b → b < w0.heap.size ∧ ¬lb b ∧ ∀ i, i < k → ρ0 i ≠ b

/-- Nothing is lent. -/
abbrev NoLend : Type := PLift (¬(default : Glob).lend)
theorem Ent.nolb [Inhabited NoLend] (E : Ent) : ∀ b, ¬E.lb b := E.lbk (default : NoLend).down

structure St (E : Ent) (objs : List AO) (toks : List Nat) (nt : Nat) (I : IH) (τ : TH) (ρ : Nat → Nat) (w : World) : Prop where
  iok : ∀ b o v, I b o = some v → w.cell? ⟨b, o, none⟩ = some v
  obj : ∀ (i : Nat) o, objs[i]? = some o → RepO I τ o (w.heap[ρ i]?)
  objI : ∀ i, i < objs.length → ρ i < w.heap.size ∧ ∀ off, I (ρ i) off = none
  inj : ∀ i j, i < objs.length → j < objs.length → ρ i = ρ j → i = j
  tok : ∀ t ∈ toks, t < nt ∧ ∀ b e r, τ t = some (b, e, r) → (E.w0.heap.size ≤ b ∨ E.lb b) ∧ (∃ cur T, w.heap[b]? = some (.cells cur T (0, 0)) ∧ cur.size = r) ∧ (∀ o, e ≤ o → I b o = none) ∧ (∀ i, i < objs.length → ρ i ≠ b)
  tokd : ∀ t ∈ toks, ∀ u ∈ toks, ∀ b e r b' e' r', τ t = some (b, e, r) → τ u = some (b', e', r') → b = b' → t = u
  os : w.os = E.w0.os
  tape : w.tape = E.w0.tape
  output : w.output = E.w0.output
  size : E.w0.heap.size ≤ w.heap.size
  blk : ∀ b, b < E.w0.heap.size → (¬E.lb b ∧ ∀ i, i < E.k → E.ρ0 i ≠ b) → w.heap[b]? = E.w0.heap[b]?
  ifr : ∀ b, b < E.w0.heap.size ∧ ¬E.lb b → ∀ o, I b o = E.I0 b o
  ifl : ∀ b, E.lb b → ∀ o v, E.I0 b o = some v → I b o = some v
  rho : ∀ i, i < E.k → ρ i = E.ρ0 i
  fresh : ∀ i, E.k ≤ i → i < objs.length → E.w0.heap.size ≤ ρ i
  tau : ∀ t, t < E.nt0 → τ t = E.τ0 t
  len : E.k ≤ objs.length
  ntle : E.nt0 ≤ nt
  i0 : ∀ b o v, E.I0 b o = some v → b < E.w0.heap.size
  tn : ∀ t, nt ≤ t → τ t = none

structure AS where
  env : List (Nat × AV)
  objs : List AO
  toks : List Nat
  nt : Nat

def getE : List (Nat × AV) → Nat → AV
  | [], _ => .unk
  | p :: l, t => if t = p.1 then p.2 else getE l t

def AS.put (s : AS) (dst : Option Nat) (v : AV) : AS :=
  match dst with
  | some t => { s with env := (t, v) :: s.env }
  | none => s

structure Sim (E : Ent) (s : AS) (a : Act) (w : World) : Prop where
  ex : ∃ I τ ρ, St E s.objs s.toks s.nt I τ ρ w ∧ ∀ t, RepA I τ ρ s.objs.length (getE s.env t) (a.tmps.getD t undef)
  sz : a.tmps.size = E.n
  df : a.defers = []

/-! ### Changes of what is known -/

structure Ext (I : IH) (τ : TH) (I' : IH) (τ' : TH) : Prop where
  i : ∀ b o v, I b o = some v → I' b o = some v
  t : ∀ t v, τ t = some v → τ' t = some v

theorem Ext.refl (I : IH) (τ : TH) : Ext I τ I τ := ⟨fun _ _ _ h => h, fun _ _ h => h⟩

theorem OwnOK.mono {τ τ' : TH} (h : ∀ t v, τ t = some v → τ' t = some v) {own : Own} {a : Option Addr} {n sz cap : Nat} (ho : OwnOK τ own a n sz cap) : OwnOK τ' own a n sz cap := by
  cases own with
  | no => trivial
  | full => exact ho
  | tok t =>
    rcases ho with ho | ⟨b, h1, h2⟩
    · exact Or.inl ho
    · exact Or.inr ⟨b, h _ _ h1, h2⟩

theorem RepD.mono {I I' : IH} {τ τ' : TH} (h : Ext I τ I' τ') {c : DV} {v : Value} (hr : RepD I τ c v) : RepD I' τ' c v := by
  induction hr with
  | int k n => exact .int k n
  | bool b => exact .bool b
  | str s hs => exact .str s hs
  | sl sz xs own a cap vals hsz hcap hmax hnil hadr hI _ hown ih =>
    exact .sl sz xs own a cap vals hsz hcap hmax hnil hadr (fun adr ha i x j c hx hc => h.i _ _ _ (hI adr ha i x j c hx hc)) ih (hown.mono h.t)
  | pin c v _ ih => exact .pin c v ih

theorem RepL.mono {I I' : IH} {τ τ' : TH} (h : Ext I τ I' τ') {cs : List DV} {vs : List Value} (hr : RepL I τ cs vs) : RepL I' τ' cs vs :=
  ⟨hr.1, fun i c v hc hv => (hr.2 i c v hc hv).mono h⟩

structure Ext2 (I : IH) (τ : TH) (ρ : Nat → Nat) (n : Nat) (I' : IH) (τ' : TH) (ρ' : Nat → Nat) (n' : Nat) : Prop extends Ext I τ I' τ' where
  le : n ≤ n'
  rr : ∀ o, o < n → ρ' o = ρ o

theorem RepA.mono {I I' : IH} {τ τ' : TH} {ρ ρ' : Nat → Nat} {n n' : Nat} (h : Ext2 I τ ρ n I' τ' ρ' n') {c : AV} {v : Value} (hr : RepA I τ ρ n c v) : RepA I' τ' ρ' n' c v := by
  induction hr with
  | d c v hd => exact .d c v (hd.mono h.toExt)
  | agg cs vs hl => exact .agg cs vs (hl.mono h.toExt)
  | ptr o off ho => rw [← h.rr o ho]; exact .ptr o off (Nat.lt_of_lt_of_le ho h.le)
  | elem cs vs adr hs hl hI => exact .elem cs vs adr hs (hl.mono h.toExt) (fun j v hv => h.i _ _ _ (hI j v hv))
  | arr o m sz ho hn => rw [← h.rr o ho]; exact .arr o m sz (Nat.lt_of_lt_of_le ho h.le) hn
  | map o ho => rw [← h.rr o ho]; exact .map o (Nat.lt_of_lt_of_le ho h.le)
  | fn f caps hc =>
    have e : (caps.map fun o => Value.pointer (some ⟨ρ o, 0, none⟩)) = caps.map fun o => Value.pointer (some ⟨ρ' o, 0, none⟩) :=
      List.map_congr_left fun o ho => by rw [h.rr o (hc o ho)]
    rw [e]
    exact .fn f caps (fun o ho => Nat.lt_of_lt_of_le (hc o ho) h.le)
  | tup vs ws hl _ ih => exact .tup vs ws hl ih
  | nilI => exact .nilI
  | errI t v => exact .errI t v
  | nofn => exact .nofn
  | unk v => exact .unk v

theorem RepM.mono {I I' : IH} {τ τ' : TH} (h : Ext I τ I' τ') {es : List (DV × DV)} {ms : List MapEntry} (hr : RepM I τ es ms) : RepM I' τ' es ms :=
  ⟨hr.1, fun i e m he hm => ⟨((hr.2 i e m he hm).1).mono h, ((hr.2 i e m he hm).2).mono h⟩⟩

theorem RepO.mono {I I' : IH} {τ τ' : TH} (h : Ext I τ I' τ') {o : AO} {b : Option Obj} (hr : RepO I τ o b) : RepO I' τ' o b := by
  cases o with
  | cells cs => obtain ⟨vs, T, h1, h2⟩ := hr; exact ⟨vs, T, h1, h2.mono h⟩
  | map es => obtain ⟨vs, T, h1, h2⟩ := hr; exact ⟨vs, T, h1, h2.mono h⟩
  | gone => trivial

theorem RepL.nil (I : IH) (τ : TH) : RepL I τ [] [] := ⟨rfl, fun i c v h => by simp at h⟩

theorem RepL.cons {I : IH} {τ : TH} {c : DV} {v : Value} {cs : List DV} {vs : List Value} (h : RepD I τ c v) (hl : RepL I τ cs vs) : RepL I τ (c :: cs) (v :: vs) :=
  ⟨by simp [hl.1], fun i c' v' hc hv => by
    cases i with
    | zero => simp at hc hv; subst hc; subst hv; exact h
    | succ i => exact hl.2 i c' v' (by simpa using hc) (by simpa using hv)⟩

theorem RepL.append {I : IH} {τ : TH} {cs cs' : List DV} {vs vs' : List Value} (h : RepL I τ cs vs) (h' : RepL I τ cs' vs') : RepL I τ (cs ++ cs') (vs ++ vs') :=
  ⟨by simp [h.1, h'.1], fun i c v hc hv => by
    by_cases hi : i < cs.length
    · rw [List.getElem?_append_left hi] at hc
      rw [List.getElem?_append_left (by rw [← h.1]; exact hi)] at hv
      exact h.2 i c v hc hv
    · rw [List.getElem?_append_right (by omega)] at hc
      rw [List.getElem?_append_right (by rw [← h.1]; omega), ← h.1] at hv
      exact h'.2 _ c v hc hv⟩

theorem RepL.get {I : IH} {τ : TH} {cs : List DV} {vs : List Value} (h : RepL I τ cs vs) {i : Nat} {c : DV} (hc : cs[i]? = some c) : ∃ v, vs[i]? = some v ∧ RepD I τ c v := by
  have hi : i < cs.length := (List.getElem?_eq_some_iff.1 hc).1
  have hv : vs[i]? = some (vs[i]'(by rw [← h.1]; exact hi)) := List.getElem?_eq_getElem _
  exact ⟨_, hv, h.2 i c _ hc hv⟩

theorem RepL.drop {I : IH} {τ : TH} {cs : List DV} {vs : List Value} (h : RepL I τ cs vs) (n : Nat) : RepL I τ (cs.drop n) (vs.drop n) :=
  ⟨by simp [h.1], fun i c v hc hv => h.2 (n + i) c v (by simpa using hc) (by simpa using hv)⟩

theorem RepL.take {I : IH} {τ : TH} {cs : List DV} {vs : List Value} (h : RepL I τ cs vs) (n : Nat) : RepL I τ (cs.take n) (vs.take n) :=
  ⟨by simp [h.1], fun i c v hc hv => by
    rw [List.getElem?_take] at hc hv
    split at hc
    · rename_i hlt
      rw [if_pos hlt] at hv
      exact h.2 i c v hc hv
    · cases hc⟩

end Go.AL

namespace Go.AL
open Go
set_option linter.unusedSectionVars false
variable [Inhabited Glob]

theorem halloc_new (w : World) (o : Obj) : (w.alloc o).heap[w.heap.size]? = some o := by
  show (w.heap.push o)[w.heap.size]? = some o
  simp
theorem halloc_old (w : World) (o : Obj) (i : Nat) (h : i < w.heap.size) : (w.alloc o).heap[i]? = w.heap[i]? := by
  show (w.heap.push o)[i]? = w.heap[i]?
  rw [Array.getElem?_push, if_neg (Nat.ne_of_lt h)]

def upd (ρ : Nat → Nat) (n b : Nat) : Nat → Nat := fun o => if o = n then b else ρ o
def updT (τ : TH) (t : Nat) (v : Option (Nat × Nat × Nat)) : TH := fun u => if u = t then v else τ u
/-- Block b becomes known whole. -/
def pub (I : IH) (b : Nat) (vs : List Value) : IH := fun b' o => if b' = b then vs[o]? else I b' o

theorem RepO.congr {I : IH} {τ : TH} {o : AO} {x y : Option Obj} (h : RepO I τ o x) (e : x = y) : RepO I τ o y := e ▸ h

section
variable {E : Ent} {objs : List AO} {toks : List Nat} {nt : Nat} {I : IH} {τ : TH} {ρ : Nat → Nat} {w : World}

theorem St.lt_of_I (h : St E objs toks nt I τ ρ w) {b o : Nat} {v : Value} (hi : I b o = some v) : b < w.heap.size :=
  World.block_lt_of_cell? w ⟨b, o, none⟩ (h.iok b o v hi)

/-- A variable of the call's is none of the program's. -/
theorem St.gsne (h : St E objs toks nt I τ ρ w) {b i : Nat} (hb : E.gs b) (hi : i < objs.length) : ρ i ≠ b := fun e => by
  have hg := E.gb b hb
  by_cases hk : i < E.k
  · exact hg.2.2 i hk (by rw [← h.rho i hk]; exact e)
  · have := h.fresh i (by omega) hi
    omega
/-- A new variable. -/
theorem St.allocObj (h : St E objs toks nt I τ ρ w) (x : Obj) (o : AO) (hx : RepO I τ o (some x)) :
    St E (objs ++ [o]) toks nt I τ (upd ρ objs.length w.heap.size) (w.alloc x) ∧ Ext2 I τ ρ objs.length I τ (upd ρ objs.length w.heap.size) (objs ++ [o]).length := by
  have hρ : ∀ i, i < objs.length → upd ρ objs.length w.heap.size i = ρ i := fun i hi => by simp [upd, Nat.ne_of_lt hi]
  have hn : upd ρ objs.length w.heap.size objs.length = w.heap.size := by simp [upd]
  refine ⟨⟨?_, ?_, ?_, ?_, ?_, h.tokd, h.os, h.tape, h.output, ?_, ?_, h.ifr, h.ifl, ?_, ?_, h.tau, ?_, h.ntle, h.i0, h.tn⟩, ⟨Ext.refl I τ, by simp, hρ⟩⟩
  · intro b o v hi
    rw [World.cell?_alloc_lt w x ⟨b, o, none⟩ (h.lt_of_I hi)]
    exact h.iok b o v hi
  · intro i o' ho
    by_cases hi : i < objs.length
    · rw [List.getElem?_append_left hi] at ho
      rw [hρ i hi, halloc_old w x _ (h.objI i hi).1]
      exact h.obj i o' ho
    · have hi' : i = objs.length := by
        have := (List.getElem?_eq_some_iff.1 ho).1
        simp at this; omega
      subst hi'
      simp at ho
      subst ho
      rw [hn, halloc_new]
      exact hx
  · intro i hi
    simp at hi
    by_cases hi' : i < objs.length
    · rw [hρ i hi']
      exact ⟨by have := (h.objI i hi').1; simp; omega, (h.objI i hi').2⟩
    · have : i = objs.length := by omega
      subst this
      rw [hn]
      refine ⟨by simp, fun off => ?_⟩
      cases hv : I w.heap.size off with
      | none => rfl
      | some v => have := h.lt_of_I hv; omega
  · intro i j hi hj e
    simp at hi hj
    by_cases hi' : i < objs.length <;> by_cases hj' : j < objs.length
    · rw [hρ i hi', hρ j hj'] at e; exact h.inj i j hi' hj' e
    · have : j = objs.length := by omega
      subst this
      rw [hρ i hi', hn] at e
      have := (h.objI i hi').1
      omega
    · have : i = objs.length := by omega
      subst this
      rw [hρ j hj', hn] at e
      have := (h.objI j hj').1
      omega
    · omega
  · intro t ht
    obtain ⟨h1, h2⟩ := h.tok t ht
    refine ⟨h1, fun b e r hb => ?_⟩
    obtain ⟨g1, ⟨cur, T, g2, g3⟩, g4, g5⟩ := h2 b e r hb
    have hlt : b < w.heap.size := (Array.getElem?_eq_some_iff.1 g2).1
    refine ⟨g1, ⟨cur, T, by rw [halloc_old w x b hlt]; exact g2, g3⟩, g4, fun i hi => ?_⟩
    simp at hi
    by_cases hi' : i < objs.length
    · rw [hρ i hi']; exact g5 i hi'
    · have : i = objs.length := by omega
      subst this
      rw [hn]; omega
  · have := h.size; simp; omega
  · intro b hb hk
    have := h.size
    rw [halloc_old w x b (by omega)]
    exact h.blk b hb hk
  · intro i hi
    have := h.len
    rw [hρ i (by omega)]
    exact h.rho i hi
  · intro i hk hi
    simp at hi
    by_cases hi' : i < objs.length
    · rw [hρ i hi']; exact h.fresh i hk hi'
    · have : i = objs.length := by omega
      subst this
      rw [hn]; exact h.size
  · have := h.len; simp; omega

/-- A new block, known in its first cells from now on. -/
theorem St.allocPre (h : St E objs toks nt I τ ρ w) (vs rest : List Value) (T : TypeId) :
    St E objs toks nt (pub I w.heap.size vs) τ ρ (w.alloc (.cells (vs ++ rest).toArray T)) ∧ Ext I τ (pub I w.heap.size vs) τ := by
  have hold : ∀ b o, b < w.heap.size → pub I w.heap.size vs b o = I b o := fun b o hb => by simp [pub, Nat.ne_of_lt hb]
  have hext : Ext I τ (pub I w.heap.size vs) τ := ⟨fun b o v hv => by rw [hold b o (h.lt_of_I hv)]; exact hv, fun _ _ h => h⟩
  refine ⟨⟨?_, ?_, ?_, h.inj, ?_, h.tokd, h.os, h.tape, h.output, ?_, ?_, ?_, fun b hb o v hv => hext.i _ _ _ (h.ifl b hb o v hv), h.rho, h.fresh, h.tau, h.len, h.ntle, h.i0, h.tn⟩, hext⟩
  · intro b o v hi
    by_cases hb : b = w.heap.size
    · subst hb
      simp [pub] at hi
      rw [World.cell?_alloc_new]
      have := (List.getElem?_eq_some_iff.1 hi).1
      simpa [List.getElem?_append_left this] using hi
    · have hi' : I b o = some v := by simpa [pub, hb] using hi
      rw [World.cell?_alloc_lt w _ ⟨b, o, none⟩ (h.lt_of_I hi')]
      exact h.iok b o v hi'
  · intro i o ho
    have hi : i < objs.length := (List.getElem?_eq_some_iff.1 ho).1
    rw [halloc_old w _ _ (h.objI i hi).1]
    exact (h.obj i o ho).mono hext
  · intro i hi
    have := (h.objI i hi).1
    exact ⟨by simp; omega, fun off => by rw [hold _ _ this]; exact (h.objI i hi).2 off⟩
  · intro t ht
    obtain ⟨h1, h2⟩ := h.tok t ht
    refine ⟨h1, fun b e r hb => ?_⟩
    obtain ⟨g1, ⟨cur, T', g2, g3⟩, g4, g5⟩ := h2 b e r hb
    have hlt : b < w.heap.size := (Array.getElem?_eq_some_iff.1 g2).1
    exact ⟨g1, ⟨cur, T', by rw [halloc_old w _ b hlt]; exact g2, g3⟩, fun o ho => by rw [hold b o hlt]; exact g4 o ho, g5⟩
  · have := h.size; simp; omega
  · intro b hb hk
    have := h.size
    rw [halloc_old w _ b (by omega)]
    exact h.blk b hb hk
  · intro b hb o
    have := h.size
    rw [hold b o (by omega)]
    exact h.ifr b hb o

/-- A new block that is known from now on. -/
theorem St.allocPub (h : St E objs toks nt I τ ρ w) (vs : List Value) (T : TypeId) :
    St E objs toks nt (pub I w.heap.size vs) τ ρ (w.alloc (.cells vs.toArray T)) ∧ Ext I τ (pub I w.heap.size vs) τ := by
  have := h.allocPre vs [] T
  simpa using this

/-- Tokens may be thrown away. -/
theorem St.sub (h : St E objs toks nt I τ ρ w) (toks' : List Nat) (hs : ∀ t ∈ toks', t ∈ toks) : St E objs toks' nt I τ ρ w :=
  ⟨h.iok, h.obj, h.objI, h.inj, fun t ht => h.tok t (hs t ht), fun t ht u hu => h.tokd t (hs t ht) u (hs u hu), h.os, h.tape, h.output, h.size, h.blk, h.ifr, h.ifl, h.rho, h.fresh, h.tau, h.len, h.ntle, h.i0, h.tn⟩

theorem updT_old {τ : TH} {t u : Nat} {v : Option (Nat × Nat × Nat)} (h : u ≠ t) : updT τ t v u = τ u := by simp [updT, h]
theorem updT_new {τ : TH} {t : Nat} {v : Option (Nat × Nat × Nat)} : updT τ t v t = v := by simp [updT]

theorem Ext.updT {I : IH} {τ : TH} {t : Nat} (v : Option (Nat × Nat × Nat)) (h : τ t = none) : Ext I τ I (AL.updT τ t v) :=
  ⟨fun _ _ _ h => h, fun u x hx => by
    by_cases e : u = t
    · subst e; rw [h] at hx; cases hx
    · rw [updT_old e]; exact hx⟩

/-- A new token, for a block that no token and no object has. -/
theorem St.newTok (h : St E objs toks nt I τ ρ w) (v : Option (Nat × Nat × Nat))
    (hv : ∀ b e r, v = some (b, e, r) → (E.w0.heap.size ≤ b ∨ E.lb b) ∧ (∃ cur T, w.heap[b]? = some (.cells cur T (0, 0)) ∧ cur.size = r) ∧ (∀ o, e ≤ o → I b o = none) ∧ (∀ i, i < objs.length → ρ i ≠ b) ∧ ∀ t ∈ toks, ∀ b' e' r', τ t = some (b', e', r') → b' ≠ b) :
    St E objs (nt :: toks) (nt + 1) I (updT τ nt v) ρ w ∧ Ext I τ I (updT τ nt v) := by
  have hext : Ext I τ I (updT τ nt v) := Ext.updT v (h.tn nt (Nat.le_refl _))
  have hne : ∀ t ∈ toks, t ≠ nt := fun t ht => Nat.ne_of_lt (h.tok t ht).1
  refine ⟨⟨h.iok, fun i o ho => (h.obj i o ho).mono hext, h.objI, h.inj, ?_, ?_, h.os, h.tape, h.output, h.size, h.blk, h.ifr, h.ifl, h.rho, h.fresh, ?_, h.len, by have := h.ntle; omega, h.i0, ?_⟩, hext⟩
  · intro t ht
    simp only [List.mem_cons] at ht
    rcases ht with rfl | ht
    · refine ⟨by omega, fun b e r hb => ?_⟩
      rw [updT_new] at hb
      obtain ⟨g1, g2, g3, g4, _⟩ := hv b e r hb
      exact ⟨g1, g2, g3, g4⟩
    · obtain ⟨g1, g2⟩ := h.tok t ht
      refine ⟨by omega, fun b e r hb => ?_⟩
      rw [updT_old (hne t ht)] at hb
      exact g2 b e r hb
  · intro t ht u hu b e r b' e' r' hb hb' hbb
    simp only [List.mem_cons] at ht hu
    rcases ht with rfl | ht <;> rcases hu with rfl | hu
    · rfl
    · rw [updT_new] at hb
      rw [updT_old (hne u hu)] at hb'
      exact absurd hbb.symm ((hv b e r hb).2.2.2.2 u hu b' e' r' hb')
    · rw [updT_new] at hb'
      rw [updT_old (hne t ht)] at hb
      exact absurd hbb ((hv b' e' r' hb').2.2.2.2 t ht b e r hb)
    · rw [updT_old (hne t ht)] at hb
      rw [updT_old (hne u hu)] at hb'
      exact h.tokd t ht u hu b e r b' e' r' hb hb' hbb
  · intro t ht
    have := h.ntle
    rw [updT_old (by omega)]
    exact h.tau t ht
  · intro t ht
    rw [updT_old (by omega)]
    exact h.tn t (by omega)

/-- More of a block becomes known. -/
def pubAt (I : IH) (b off : Nat) (vs : List Value) : IH := fun b' o => if b' = b ∧ off ≤ o ∧ o < off + vs.length then vs[o - off]? else I b' o

/-- In place: the bearer of the token writes behind what is known. -/
theorem St.tokIn (h : St E objs toks nt I τ ρ w) {t b e r : Nat} (ht : t ∈ toks) (hb : τ t = some (b, e, r)) (vs : List Value) (hfit : e + vs.length ≤ r)
    {cur : Array Value} {T : TypeId} (hcur : w.heap[b]? = some (.cells cur T (0, 0))) :
    St E objs (nt :: toks.filter (· != t)) (nt + 1) (pubAt I b e vs) (updT τ nt (some (b, e + vs.length, r))) ρ (w.setRow b (cur.toList.take e ++ vs ++ cur.toList.drop (e + vs.length)).toArray) ∧
    Ext I τ (pubAt I b e vs) (updT τ nt (some (b, e + vs.length, r))) := by
  obtain ⟨g0, g1⟩ := h.tok t ht
  obtain ⟨g2, ⟨cur', T', g3, g4⟩, g5, g6⟩ := g1 b e r hb
  rw [hcur] at g3
  cases g3
  have hle : e ≤ cur.size := by omega
  have hI : ∀ b' o v, I b' o = some v → pubAt I b e vs b' o = some v := by
    intro b' o v hv
    unfold pubAt
    split
    · rename_i hc
      obtain ⟨rfl, h1, _⟩ := hc
      rw [g5 o h1] at hv
      cases hv
    · exact hv
  have hoth : ∀ k, k ≠ b → (w.setRow b (cur.toList.take e ++ vs ++ cur.toList.drop (e + vs.length)).toArray).heap[k]? = w.heap[k]? := fun k hk => setRow_other w b k _ hk
  have hrow := setRow_heap w b cur (cur.toList.take e ++ vs ++ cur.toList.drop (e + vs.length)).toArray T (0, 0) hcur
  have hnew : ∀ o, (cur.toList.take e ++ vs ++ cur.toList.drop (e + vs.length))[o]? = if e ≤ o ∧ o < e + vs.length then vs[o - e]? else cur.toList[o]? := by
    intro o
    have hl : (cur.toList.take e).length = e := by simp; omega
    by_cases h1 : o < e
    · rw [if_neg (by omega), List.append_assoc, List.getElem?_append_left (by omega), List.getElem?_take_of_lt h1]
    · by_cases h2 : o < e + vs.length
      · rw [if_pos (by omega), List.getElem?_append_left (by simp; omega), List.getElem?_append_right (by omega), hl]
      · rw [if_neg (by omega), List.getElem?_append_right (by simp; omega), List.getElem?_drop]
        congr 1
        simp; omega
  have h1 : St E objs (toks.filter (· != t)) nt (pubAt I b e vs) τ ρ (w.setRow b (cur.toList.take e ++ vs ++ cur.toList.drop (e + vs.length)).toArray) := by
    refine ⟨?_, ?_, ?_, h.inj, ?_, ?_, h.os, h.tape, h.output, by simp; exact h.size, ?_, ?_, fun b hb o v hv => hI _ _ _ (h.ifl b hb o v hv), h.rho, h.fresh, h.tau, h.len, h.ntle, h.i0, h.tn⟩
    · intro b' o v hv
      by_cases hbb : b' = b
      · subst hbb
        simp only [World.cell?, hrow]
        simp only [Option.isSome_none, Bool.false_eq_true, if_false, List.getElem?_toArray, hnew]
        unfold pubAt at hv
        split
        · rename_i hc
          rw [if_pos ⟨rfl, hc⟩] at hv
          exact hv
        · rename_i hc
          rw [if_neg (fun x => hc x.2)] at hv
          have := h.iok b' o v hv
          simpa [World.cell?, hcur] using this
      · have hv' : I b' o = some v := by
          unfold pubAt at hv
          rw [if_neg (fun x => hbb x.1)] at hv
          exact hv
        have := h.iok b' o v hv'
        rw [World.cell?_of_block (a := ⟨b', o, none⟩) (hoth b' hbb)]
        exact this
    · intro i o ho
      have hi : i < objs.length := (List.getElem?_eq_some_iff.1 ho).1
      rw [hoth _ (g6 i hi)]
      exact (h.obj i o ho).mono ⟨hI, fun _ _ h => h⟩
    · intro i hi
      refine ⟨by simp; exact (h.objI i hi).1, fun off => ?_⟩
      unfold pubAt
      rw [if_neg (fun x => g6 i hi x.1)]
      exact (h.objI i hi).2 off
    · intro u hu
      simp only [List.mem_filter, bne_iff_ne] at hu
      obtain ⟨k1, k2⟩ := h.tok u hu.1
      refine ⟨k1, fun b' e' r' hb' => ?_⟩
      obtain ⟨k3, ⟨c, T', k4, k5⟩, k6, k7⟩ := k2 b' e' r' hb'
      have hbb : b' ≠ b := fun eq => hu.2 (h.tokd u hu.1 t ht b' e' r' b e r hb' hb eq)
      refine ⟨k3, ⟨c, T', by rw [hoth b' hbb]; exact k4, k5⟩, fun o ho => ?_, k7⟩
      unfold pubAt
      rw [if_neg (fun x => hbb x.1)]
      exact k6 o ho
    · intro x hx y hy
      exact h.tokd x (List.mem_filter.1 hx).1 y (List.mem_filter.1 hy).1
    · intro b' hb' hk
      rw [hoth b' (fun e => g2.elim (fun g => by omega) fun g => hk.1 (e ▸ g))]
      exact h.blk b' hb' hk
    · intro b' hb' o
      unfold pubAt
      rw [if_neg (fun (x : b' = b ∧ e ≤ o ∧ o < e + vs.length) => g2.elim (fun g => by omega) fun g => hb'.2 (x.1 ▸ g))]
      exact h.ifr b' hb' o
  have h2 := h1.newTok (some (b, e + vs.length, r)) (by
    rintro b' e' r' ⟨⟩
    refine ⟨g2, ⟨_, T, hrow, ?_⟩, fun o ho => ?_, g6, fun u hu b' e' r' hb' => ?_⟩
    · simp; omega
    · unfold pubAt
      rw [if_neg (fun x => by omega)]
      exact g5 o (by omega)
    · simp only [List.mem_filter, bne_iff_ne] at hu
      exact fun eq => hu.2 (h.tokd u hu.1 t ht b' e' r' b e r hb' hb eq))
  exact ⟨h2.1, ⟨fun b' o v hv => h2.2.i _ _ _ (hI b' o v hv), h2.2.t⟩⟩

theorem St.drew (h : St E objs toks nt I τ ρ w) : St E objs toks nt I τ ρ w.drew :=
  ⟨h.iok, h.obj, h.objI, h.inj, h.tok, h.tokd, h.os, h.tape, h.output, h.size, h.blk, h.ifr, h.ifl, h.rho, h.fresh, h.tau, h.len, h.ntle, h.i0, h.tn⟩

/-- A block of an object is exchanged. -/
theorem St.setObj (h : St E objs toks nt I τ ρ w) (i : Nat) (hi : i < objs.length) (w' : World) (o : AO)
    (hsz : w'.heap.size = w.heap.size) (hoth : ∀ b, b ≠ ρ i → w'.heap[b]? = w.heap[b]?) (ho : RepO I τ o (w'.heap[ρ i]?))
    (hos : w'.os = w.os) (htape : w'.tape = w.tape) (hout : w'.output = w.output) :
    St E (objs.set i o) toks nt I τ ρ w' := by
  refine ⟨?_, ?_, ?_, ?_, ?_, h.tokd, hos.trans h.os, htape.trans h.tape, hout.trans h.output, by rw [hsz]; exact h.size, ?_, h.ifr, h.ifl, h.rho, ?_, h.tau, by simpa using h.len, h.ntle, h.i0, h.tn⟩
  · intro b o v hv
    have hb : b ≠ ρ i := fun e => by rw [e, (h.objI i hi).2] at hv; cases hv
    have := h.iok b o v hv
    simpa [World.cell?, hoth b hb] using this
  · intro j o' ho'
    by_cases hj : j = i
    · subst hj
      simp [hi] at ho'
      subst ho'
      exact ho
    · rw [List.getElem?_set_ne (fun e => hj e.symm)] at ho'
      have hj' : j < objs.length := (List.getElem?_eq_some_iff.1 ho').1
      rw [hoth _ (fun e => hj (h.inj j i hj' hi e))]
      exact h.obj j o' ho'
  · intro j hj
    simp at hj
    rw [hsz]
    exact h.objI j hj
  · intro a b ha hb
    simp at ha hb
    exact h.inj a b ha hb
  · intro t ht
    obtain ⟨h1, h2⟩ := h.tok t ht
    refine ⟨h1, fun b e r hb => ?_⟩
    obtain ⟨g1, ⟨cur, T', g2, g3⟩, g4, g5⟩ := h2 b e r hb
    exact ⟨g1, ⟨cur, T', by rw [hoth b (fun e => g5 i hi e.symm)]; exact g2, g3⟩, g4, fun j hj => g5 j (by simpa using hj)⟩
  · intro b hb hk
    have hne : b ≠ ρ i := by
      intro e
      by_cases hik : i < E.k
      · exact hk.2 i hik (by rw [← h.rho i hik]; exact e.symm)
      · have := h.fresh i (by omega) hi
        omega
    rw [hoth b hne]
    exact h.blk b hb hk
  · intro j hk hj
    simp at hj
    exact h.fresh j hk hj

end

end Go.AL

namespace Go.AL
open Go
set_option linter.unusedSectionVars false
variable [Inhabited Glob]

inductive Ty where
  | int (k : IntKind)
  | bool
  | str
  | ptr
  | slice (e : Nat)
  | strct (fs : List (Nat × Nat))
  | map (k e : Nat)
  | func
  | iface
  | other

structure TyI where
  t : Ty
  size : Nat
  bytes : Nat
  zero : Option (List DV)

def Ty.agg : Ty → Bool
  | .strct _ => true
  | _ => false

def DV.zv : DV → Value
  | .int k n => .int k n
  | .bool b => .bool b
  | .str s => .string ⟨s.toArray⟩
  | .sl _ _ _ => .slice none 0 0
  | .pin _ v => v

/-- Zero values alone. -/
def DV.isZ : DV → Bool
  | .int _ n => n == 0
  | .bool b => !b
  | .str s => s.isEmpty
  | .sl _ xs own => xs.isEmpty && own == .full
  | .pin _ _ => false

structure TyOK (P : Program) (n : Nat) (ti : TyI) : Prop where
  desc : match ti.t with
    | .int k => P.underlying n = some (.int k)
    | .bool => P.underlying n = some .bool
    | .str => P.underlying n = some .string
    | .ptr => ∃ e, P.underlying n = some (.pointer e)
    | .slice e => P.underlying n = some (.slice e)
    | .strct fs => ∃ F : Array Field, P.underlying n = some (.struct F) ∧ F.toList.map (fun f => (f.offset, f.type)) = fs
    | .map k e => P.underlying n = some (.map k e)
    | .func => ∃ a b c, P.underlying n = some (.func a b c)
    | .iface => ∃ ms, P.underlying n = some (.interface ms)
    | .other => True
  info : match ti.t with
    | .other => True
    | _ => ∃ i, P.info? n = some i ∧ i.size = ti.size ∧ i.bytes = ti.bytes ∧
      match ti.zero with
      | some z => i.zero = some (if ti.t.agg then .agg (z.map DV.zv).toArray else (z.map DV.zv).headD undef) ∧ z.all DV.isZ = true ∧ z.length = ti.size ∧ (ti.t.agg = false → ti.size = 1)
      | none => True

structure Tab (P : Program) where
  T : Nat → TyI
  ok : ∀ n, TyOK P n (T n)

def AV.cells : AV → Option (List DV)
  | .d c => some [c]
  | .agg cs => some cs
  | _ => none

def mkV (ti : TyI) (cs : List DV) : AV :=
  if ti.t.agg then .agg cs else match cs with
    | [c] => .d c
    | _ => .unk

theorem RepD.zero {I : IH} {τ : TH} {c : DV} (h : c.isZ = true) : RepD I τ c c.zv := by
  cases c with
  | int k n => exact .int k n
  | bool b => exact .bool b
  | str s =>
    have : s = [] := by simpa [DV.isZ] using h
    subst this
    exact .str [] (by simp)
  | sl sz xs own =>
    simp only [DV.isZ, Bool.and_eq_true, List.isEmpty_iff, beq_iff_eq] at h
    obtain ⟨rfl, rfl⟩ := h
    exact .sl sz [] .full none 0 (fun _ => undef) (by simp) (by simp) (by simp) (fun _ => rfl) (by simp) (by simp) (by simp) rfl
  | pin c v => simp [DV.isZ] at h

theorem RepL.zeros {I : IH} {τ : TH} {z : List DV} (h : z.all DV.isZ = true) : RepL I τ z (z.map DV.zv) := by
  induction z with
  | nil => exact RepL.nil I τ
  | cons c z ih =>
    simp only [List.all_cons, Bool.and_eq_true] at h
    exact RepL.cons (RepD.zero h.1) (ih h.2)

theorem RepD.cells {I : IH} {τ : TH} {c : DV} {v : Value} (h : RepD I τ c v) : v.cells = #[v] := by
  induction h with
  | pin c v _ ih => exact ih
  | _ => rfl

theorem RepD.one {I : IH} {τ : TH} {c : DV} {v : Value} (h : RepD I τ c v) : v.oneCell' = true := by
  induction h with
  | pin c v _ ih => exact ih
  | _ => rfl

theorem RepL.one {I : IH} {τ : TH} {cs : List DV} {vs : List Value} (h : RepL I τ cs vs) : ∀ v ∈ vs, v.oneCell' = true := by
  intro v hv
  obtain ⟨i, hi⟩ := List.getElem?_of_mem hv
  have hlt : i < vs.length := (List.getElem?_eq_some_iff.1 hi).1
  obtain ⟨c, hc⟩ : ∃ c, cs[i]? = some c := ⟨cs[i]'(by rw [h.1]; exact hlt), List.getElem?_eq_getElem _⟩
  exact (h.2 i c v hc hi).one

theorem RepA.cells {I : IH} {τ : TH} {ρ : Nat → Nat} {n : Nat} {v : AV} {x : Value} {cs : List DV} (h : RepA I τ ρ n v x) (hc : v.cells = some cs) : RepL I τ cs x.cells.toList := by
  cases h with
  | d c v hd =>
    simp only [AV.cells, Option.some.injEq] at hc
    subst hc
    rw [hd.cells]
    exact RepL.cons hd (RepL.nil I τ)
  | agg cs' vs hl =>
    simp only [AV.cells, Option.some.injEq] at hc
    subst hc
    exact hl
  | _ => simp [AV.cells] at hc

/-- A constant. -/
def cv : Value → AV
  | .int k n => .d (.int k n)
  | .bool b => .d (.bool b)
  | .string s => if s.data.toList.length ≤ 9223372036854775807 then .d (.str s.data.toList) else .unk
  | .slice none 0 0 => .d (.sl 0 [] .full)
  | .nilIface => .nilI
  | .nilFunc => .nofn
  | _ => .unk

theorem cv_rep {I : IH} {τ : TH} {ρ : Nat → Nat} {n : Nat} (v : Value) : RepA I τ ρ n (cv v) v := by
  unfold cv
  split
  · exact .d _ _ (.int _ _)
  · exact .d _ _ (.bool _)
  · rename_i s
    split
    · rename_i h
      have := RepA.d (I := I) (τ := τ) (ρ := ρ) (n := n) _ _ (.str s.data.toList h)
      simpa using this
    · exact .unk _
  · exact .d _ _ (.sl 0 [] .full none 0 (fun _ => undef) (by simp) (by simp) (by simp) (fun _ => rfl) (by simp) (by simp) (by simp) rfl)
  · exact .nilI
  · exact .nofn
  · exact .unk _

def ev (s : AS) : Operand → AV
  | .tmp t => getE s.env t
  | .const v => cv v
  | .global _ => .unk
  | .func f => .fn f []

/-- What stands behind an operation: the state, and what its slot will hold. -/
def Res (E : Ent) (s : AS) (a : Act) (v : AV) (x : Value) (w : World) : Prop :=
  ∃ I τ ρ, St E s.objs s.toks s.nt I τ ρ w ∧ (∀ t, RepA I τ ρ s.objs.length (getE s.env t) (a.tmps.getD t undef)) ∧ RepA I τ ρ s.objs.length v x

theorem Act.getD_put (a : Act) (d : Nat) (x : Value) (t : Nat) (hd : d < a.tmps.size) : ((a.put (some d) x).tmps.getD t undef) = if t = d then x else a.tmps.getD t undef := by
  simp only [Act.put]
  by_cases h : t = d
  · subst h
    simp [hd]
  · simp [h, Array.getElem?_setIfInBounds_ne (fun e => h e.symm)]

theorem Res.sim {E : Ent} {s : AS} {a : Act} {v : AV} {x : Value} {w : World} (h : Res E s a v x w) (dst : Option Nat) (hsz : a.tmps.size = E.n) (hdf : a.defers = [])
    (hd : ∀ d, dst = some d → d < E.n) : Sim E (s.put dst v) (a.put dst x) w := by
  obtain ⟨I, τ, ρ, h1, h2, h3⟩ := h
  cases dst with
  | none => exact ⟨⟨I, τ, ρ, h1, h2⟩, hsz, hdf⟩
  | some d =>
    have hd' : d < a.tmps.size := by rw [hsz]; exact hd d rfl
    refine ⟨⟨I, τ, ρ, h1, fun t => ?_⟩, by simp [Act.put, hsz], by simpa [Act.put] using hdf⟩
    rw [Act.getD_put a d x t hd']
    simp only [AS.put, getE]
    split
    · exact h3
    · exact h2 t

section
variable {I : IH} {τ : TH} {ρ : Nat → Nat} {s : AS} {a : Act}

theorem ev_rep (h : ∀ t, RepA I τ ρ s.objs.length (getE s.env t) (a.tmps.getD t undef)) (x : Operand) : RepA I τ ρ s.objs.length (ev s x) (a.eval x) := by
  cases x with
  | tmp t => exact h t
  | const v => exact cv_rep v
  | global g => exact .unk _
  | func f => exact .fn f [] (by simp)

end

/-- The form of all the laws below: an operation that yields a value. -/
theorem wp_of_value {P : Program} {o : Oper} {a : Act} {w w' : World} {x : Value} {K : Act → World → Prop} {Q : Exit → Act → World → Prop}
    (hr : (execOp a.eval o).run P w = .ok (.value x) w') (h : K (a.put o.dst x) w') : o.wp P a w K Q := by
  unfold Oper.wp
  rw [hr]
  exact h

theorem wp_of_skip {P : Program} {o : Oper} {a : Act} {w w' : World} {K : Act → World → Prop} {Q : Exit → Act → World → Prop}
    (hr : (execOp a.eval o).run P w = .ok .skip w') (h : K (a.put o.dst undef) w') : o.wp P a w K Q := by
  unfold Oper.wp
  rw [hr]
  exact h

/-- One operation is right: in every state that it may be met in, it runs, yields what K is told. -/
def OpOK (P : Program) (E : Ent) (s : AS) (op : Op) (ty : TypeId) (K : AV → AS → Prop) : Prop :=
  ∀ (a : Act) (w : World), Sim E s a w →
    (∃ x w', (∀ dst pos after guard, (execOp a.eval ⟨dst, op, ty, pos, after, guard⟩).run P w = .ok (.value x) w') ∧ ∃ v s', K v s' ∧ s'.env = s.env ∧ Res E s' a v x w') ∨
    (∃ w', (∀ dst pos after guard, (execOp a.eval ⟨dst, op, ty, pos, after, guard⟩).run P w = .ok .skip w') ∧ ∃ v s', K v s' ∧ s'.env = s.env ∧ Res E s' a v undef w') ∨
    (∃ f args, (∀ dst pos after guard, (execOp a.eval ⟨dst, op, ty, pos, after, guard⟩).run P w = .ok (.enter f args) w) ∧
      Calls P f args w fun e w' => ∃ x, e = .returned x ∧ ∃ v s', K v s' ∧ s'.env = s.env ∧ Res E s' a v x w')

theorem OpOK.mono {P : Program} {E : Ent} {s : AS} {op : Op} {ty : TypeId} {K K' : AV → AS → Prop} (h : OpOK P E s op ty K) (hk : ∀ v s', K v s' → K' v s') : OpOK P E s op ty K' := by
  intro a w hs
  rcases h a w hs with ⟨x, w', h1, v, s', h2, h3⟩ | ⟨w', h1, v, s', h2, h3⟩ | ⟨f, args, h1, h2⟩
  · exact .inl ⟨x, w', h1, v, s', hk _ _ h2, h3⟩
  · exact .inr (.inl ⟨w', h1, v, s', hk _ _ h2, h3⟩)
  · exact .inr (.inr ⟨f, args, h1, h2.mono fun e w' ⟨x, he, v, s', h3, h4⟩ => ⟨x, he, v, s', hk _ _ h3, h4⟩⟩)

/-- From the law of an operation to the walk. -/
theorem OpOK.wp {P : Program} {E : Ent} {s : AS} {op : Op} {ty : TypeId} {K : AV → AS → Prop} (h : OpOK P E s op ty K) {dst : Option Nat} {pos : String} {after : Array Edge} {guard : Option (Nat × Bool)}
    {a : Act} {w : World} (hs : Sim E s a w) (hd : ∀ d, dst = some d → d < E.n) {Q : Exit → Act → World → Prop} {N : Act → World → Prop}
    (hn : ∀ v s', K v s' → s'.env = s.env → ∀ a' w', Sim E (s'.put dst v) a' w' → N a' w') : (Oper.mk dst op ty pos after guard).wp P a w N Q := by
  rcases h a w hs with ⟨x, w', h1, v, s', h2, h3, h4⟩ | ⟨w', h1, v, s', h2, h3, h4⟩ | ⟨f, args, h1, h2⟩
  · exact wp_of_value (h1 dst pos after guard) (hn v s' h2 h3 _ _ (h4.sim dst hs.sz hs.df hd))
  · exact wp_of_skip (h1 dst pos after guard) (hn v s' h2 h3 _ _ (h4.sim dst hs.sz hs.df hd))
  · unfold Oper.wp
    rw [h1 dst pos after guard]
    refine Calls.mono h2 fun e w' ⟨x, he, v, s', h3, h4, h5⟩ => ?_
    subst he
    exact hn v s' h3 h4 _ _ (h5.sim dst hs.sz hs.df hd)

end Go.AL

namespace Go.AL
open Go
set_option linter.unusedSectionVars false
variable [Inhabited Glob]

section
variable {P : Program} {E : Ent} {s : AS} {ty : TypeId} {K : AV → AS → Prop}

/-- An operation that only computes: the same state behind it. -/
theorem op_pure (op : Op) (v : AV) (hk : K v s)
    (h : ∀ (a : Act) (w : World) I τ ρ, St E s.objs s.toks s.nt I τ ρ w → (∀ t, RepA I τ ρ s.objs.length (getE s.env t) (a.tmps.getD t undef)) →
      ∃ x, (∀ dst pos after guard, (execOp a.eval ⟨dst, op, ty, pos, after, guard⟩).run P w = .ok (.value x) w) ∧ RepA I τ ρ s.objs.length v x) : OpOK P E s op ty K := by
  intro a w hs
  obtain ⟨I, τ, ρ, h1, h2⟩ := hs.ex
  obtain ⟨x, hx, hr⟩ := h a w I τ ρ h1 h2
  exact .inl ⟨x, w, hx, v, s, hk, rfl, I, τ, ρ, h1, h2, hr⟩

theorem op_move {x : Operand} (hk : K (ev s x) s) : OpOK P E s (.move x) ty K :=
  op_pure _ _ hk fun a _ _ _ _ _ h2 => ⟨a.eval x, fun _ _ _ _ => rfl, ev_rep h2 x⟩

theorem op_assign {x : Operand} (hk : K (ev s x) s) : OpOK P E s (.assign x) ty K :=
  op_pure _ _ hk fun a _ _ _ _ _ h2 => ⟨a.eval x, fun _ _ _ _ => rfl, ev_rep h2 x⟩

theorem rep_bool {I : IH} {τ : TH} {ρ : Nat → Nat} {n : Nat} {b : Bool} {x : Value} (h : RepA I τ ρ n (.d (.bool b)) x) : x = .bool b := by
  cases h with
  | d _ _ h => cases h; rfl

theorem rep_int {I : IH} {τ : TH} {ρ : Nat → Nat} {n : Nat} {k : IntKind} {m : Int} {x : Value} (h : RepA I τ ρ n (.d (.int k m)) x) : x = .int k m := by
  cases h with
  | d _ _ h => cases h; rfl

theorem rep_str {I : IH} {τ : TH} {ρ : Nat → Nat} {n : Nat} {l : List UInt8} {x : Value} (h : RepA I τ ρ n (.d (.str l)) x) : x = .string ⟨l.toArray⟩ ∧ l.length ≤ 9223372036854775807 := by
  cases h with
  | d _ _ h => cases h with | str _ h => exact ⟨rfl, h⟩

theorem rep_ptr {I : IH} {τ : TH} {ρ : Nat → Nat} {n o off : Nat} {x : Value} (h : RepA I τ ρ n (.ptr o off) x) : x = .pointer (some ⟨ρ o, off, none⟩) ∧ o < n := by
  cases h with
  | ptr _ _ h => exact ⟨rfl, h⟩

theorem op_pick {c x y : Operand} {t : Bool} (hc : ev s c = .d (.bool t)) (hk : K (if t then ev s x else ev s y) s) : OpOK P E s (.pick c x y) ty K :=
  op_pure _ _ hk fun a w I τ ρ _ h2 => by
    have h := ev_rep h2 c
    rw [hc] at h
    have hb := rep_bool h
    refine ⟨if t then a.eval x else a.eval y, fun _ _ _ _ => ?_, ?_⟩
    · simp [execOp, hb, asBool]
    · split <;> exact ev_rep h2 _

theorem op_nilCheck {x : Operand} (hk : K (ev s x) s) (h : (∃ o off, ev s x = .ptr o off) ∨ ∃ cs, ev s x = .elem cs) : OpOK P E s (.nilCheck x) ty K :=
  op_pure _ _ hk fun a w I τ ρ _ h2 => by
    have hx := ev_rep h2 x
    refine ⟨a.eval x, fun _ _ _ _ => ?_, hx⟩
    rcases h with ⟨o, off, h⟩ | ⟨cs, h⟩
    · rw [h] at hx
      simp [execOp, (rep_ptr hx).1]
    · rw [h] at hx
      generalize hy : a.eval x = y at *
      cases hx
      simp [execOp, hy]

/-- A new variable with these cells. -/
theorem op_newVar (op : Op) (T : TypeId) (cs : List DV) (hk : K (.ptr s.objs.length 0) { s with objs := s.objs ++ [.cells cs] })
    (h : ∀ (a : Act) (w : World) I τ ρ, St E s.objs s.toks s.nt I τ ρ w → (∀ t, RepA I τ ρ s.objs.length (getE s.env t) (a.tmps.getD t undef)) →
      ∃ vs, RepL I τ cs vs ∧ (∀ dst pos after guard, (execOp a.eval ⟨dst, op, ty, pos, after, guard⟩).run P w = .ok (.value (.pointer (some ⟨w.heap.size, 0, none⟩))) (w.alloc (.cells vs.toArray T)))) : OpOK P E s op ty K := by
  intro a w hs
  obtain ⟨I, τ, ρ, h1, h2⟩ := hs.ex
  obtain ⟨vs, hv, hx⟩ := h a w I τ ρ h1 h2
  obtain ⟨g1, g2⟩ := h1.allocObj (.cells vs.toArray T) (.cells cs) ⟨vs, T, rfl, hv⟩
  refine .inl ⟨_, _, hx, _, _, hk, rfl, I, τ, _, g1, fun t => (h2 t).mono g2, ?_⟩
  have := RepA.ptr (I := I) (τ := τ) (ρ := upd ρ s.objs.length w.heap.size) (n := (s.objs ++ [AO.cells cs]).length) s.objs.length 0 (by simp)
  simpa [upd] using this

theorem zeroValue_run {n : Nat} {ti : TyI} (h : TyOK P n ti) (hne : ti.t ≠ .other) {z : List DV} (hz : ti.zero = some z) (w : World) :
    (zeroValue n).run P w = .ok (if ti.t.agg then .agg (z.map DV.zv).toArray else (z.map DV.zv).headD undef) w ∧ z.all DV.isZ = true ∧ z.length = ti.size ∧ (ti.t.agg = false → ti.size = 1) := by
  have hi := h.info
  cases ht : ti.t with
  | other => exact absurd ht hne
  | _ =>
    simp only [ht, hz] at hi ⊢
    obtain ⟨i, g1, g2, g3, g4, g5, g6, g7⟩ := hi
    exact ⟨by simp [zeroValue, typeInfo, g1, g4], g5, g6, g7⟩

theorem zeroCells_eq {ti : TyI} {z : List DV} (hl : z.length = ti.size) (h1 : ti.t.agg = false → ti.size = 1) (hz : z.all DV.isZ = true) :
    (if ti.t.agg then Value.agg (z.map DV.zv).toArray else (z.map DV.zv).headD undef).cells = (z.map DV.zv).toArray := by
  split
  · rfl
  · rename_i hf
    have := h1 (by simpa using hf)
    rw [this] at hl
    obtain ⟨c, rfl⟩ := List.length_eq_one_iff.1 hl
    simp only [List.all_cons, Bool.and_eq_true] at hz
    simp only [List.map_cons, List.map_nil, List.headD_cons]
    exact (RepD.zero (I := fun _ _ => none) (τ := fun _ => none) hz.1).cells

theorem op_alloc (TT : Tab P) {T : TypeId} {z : List DV} (hz : (TT.T T).zero = some z) (hne : (TT.T T).t ≠ .other)
    (hk : K (.ptr s.objs.length 0) { s with objs := s.objs ++ [.cells z] }) : OpOK P E s (.alloc T) ty K :=
  op_newVar _ T z hk fun a w I τ ρ _ _ => by
    obtain ⟨g1, g2, g3, g4⟩ := zeroValue_run (TT.ok T) hne hz w
    refine ⟨z.map DV.zv, RepL.zeros g2, fun _ _ _ _ => ?_⟩
    have hz' := zeroCells_eq g3 g4 g2
    generalize (if (TT.T T).t.agg then Value.agg (z.map DV.zv).toArray else (z.map DV.zv).headD undef) = zz at *
    simp [execOp, Instr.alloc, g1, newVar, newRow, hz']

theorem op_box {T : TypeId} {x : Operand} {cs : List DV} (hc : (ev s x).cells = some cs)
    (hk : K (.ptr s.objs.length 0) { s with objs := s.objs ++ [.cells cs] }) : OpOK P E s (.box T x) ty K :=
  op_newVar _ T cs hk fun a w I τ ρ _ h2 => by
    have h := (ev_rep h2 x).cells hc
    refine ⟨(a.eval x).cells.toList, h, fun _ _ _ _ => ?_⟩
    simp [execOp, Instr.box, newVar, newRow]

/-! ### Parts laid into cells -/

def layL (cs : List DV) (off : Nat) (vs : List DV) : List DV := cs.take off ++ vs ++ cs.drop (off + vs.length)

theorem foldl_lay (vs : List Value) : ∀ (k : Nat) (cs : Array Value) (off : Nat), off + k + vs.length ≤ cs.size →
    ((vs.zipIdx k).foldl (fun cs (x : Value × Nat) => cs.setIfInBounds (off + x.2) x.1) cs).toList = cs.toList.take (off + k) ++ vs ++ cs.toList.drop (off + k + vs.length) := by
  induction vs with
  | nil => intro k cs off _; simp
  | cons v vs ih =>
    intro k cs off h
    simp only [List.length_cons] at h
    simp only [List.zipIdx_cons, List.foldl_cons]
    rw [ih (k + 1) _ off (by simp; omega)]
    apply List.ext_getElem?
    intro i
    simp only [Array.toList_setIfInBounds, List.append_assoc, List.length_cons]
    have hsz : cs.toList.length = cs.size := by simp
    rcases Nat.lt_trichotomy i (off + k) with hi | hi | hi
    · rw [List.getElem?_append_left (by simp; omega), List.getElem?_append_left (by simp; omega), List.getElem?_take_of_lt (by omega), List.getElem?_take_of_lt (by omega), List.getElem?_set_ne (by omega)]
    · subst hi
      rw [List.getElem?_append_left (by simp; omega), List.getElem?_append_right (by simp; omega), List.getElem?_take_of_lt (by omega), List.getElem?_set_self (by omega)]
      have e : off + k - (List.take (off + k) cs.toList).length = 0 := by simp; omega
      rw [e]; rfl
    · have A : ∀ (p q : List Value) (m : Nat), p.length = m → m ≤ i → (p ++ q)[i]? = q[i - m]? := by
        intro p q m hp hm
        rw [List.getElem?_append_right (by omega), hp]
      rw [A _ (vs ++ _) (off + k + 1) (by simp; omega) (by omega), A _ (v :: vs ++ _) (off + k) (by simp; omega) (by omega)]
      have e1 : i - (off + k + 1) = i - (off + k) - 1 := by omega
      rw [e1]
      obtain ⟨j, hj⟩ : ∃ j, i - (off + k) = j + 1 := ⟨i - (off + k) - 1, by omega⟩
      rw [hj]
      simp only [Nat.add_sub_cancel, List.cons_append, List.getElem?_cons_succ]
      by_cases hjl : j < vs.length
      · rw [List.getElem?_append_left hjl, List.getElem?_append_left hjl]
      · rw [List.getElem?_append_right (by omega), List.getElem?_append_right (by omega), List.getElem?_drop, List.getElem?_drop, List.getElem?_set_ne (by omega)]
        congr 1
        omega

def fillL (place : Nat → Option (Nat × Nat)) (cells : List DV) : List (Nat × Option (List DV)) → Option (List DV)
  | [] => some cells
  | (i, v) :: rest =>
    match place i, v with
    | some (off, size), some v => if v.length = size ∧ off + v.length ≤ cells.length then fillL place (layL cells off v) rest else none
    | _, _ => none

theorem fill_ok {I : IH} {τ : TH} (place : Nat → Option (Nat × Nat)) : ∀ (ps : List (Nat × Option (List DV))) (qs : List (Nat × Value)) (cs : List DV) (vs : Array Value) (out : List DV),
    ps.length = qs.length → (∀ (i : Nat) p q, ps[i]? = some p → qs[i]? = some q → p.1 = q.1 ∧ ∀ c, p.2 = some c → RepL I τ c q.2.cells.toList) →
    RepL I τ cs vs.toList → fillL place cs ps = some out → ∃ ws, Instr.fill place vs qs = some ws ∧ RepL I τ out ws.toList := by
  intro ps
  induction ps with
  | nil =>
    intro qs cs vs out hl _ hr hf
    have : qs = [] := List.eq_nil_of_length_eq_zero (by simpa using hl.symm)
    subst this
    simp only [fillL, Option.some.injEq] at hf
    subst hf
    exact ⟨vs, rfl, hr⟩
  | cons p ps ih =>
    intro qs cs vs out hl hp hr hf
    cases qs with
    | nil => simp at hl
    | cons q qs =>
      obtain ⟨i, v⟩ := p
      obtain ⟨j, x⟩ := q
      have h0 := hp 0 _ _ rfl rfl
      simp only at h0
      obtain ⟨rfl, h0⟩ := h0
      simp only [fillL] at hf
      simp only [Instr.fill]
      cases hpl : place i with
      | none => simp [hpl] at hf
      | some os =>
        obtain ⟨off, size⟩ := os
        cases v with
        | none => simp [hpl] at hf
        | some v =>
          simp only [hpl] at hf
          split at hf
          · rename_i hc
            have hrl := h0 v rfl
            have hlen : x.cells.size = v.length := by have := hrl.1; simpa using this.symm
            have hcl : vs.size = cs.length := by have := hr.1; simpa using this.symm
            have hcond : ¬ ((x.cells.size ≠ size || off + x.cells.size > vs.size) = true) := by
              simp [hlen, hcl, hc.1]; omega
            simp only [hcond]
            refine ih qs (layL cs off v) _ out (by simpa using hl) (fun k p q hp' hq' => hp (k + 1) p q (by simpa using hp') (by simpa using hq')) ?_ hf
            rw [← Array.foldl_toList, Array.toList_zipIdx]
            have := foldl_lay x.cells.toList 0 vs off (by simp [hlen, hcl]; omega)
            simp only [Nat.add_zero] at this
            rw [this]
            unfold layL
            have hlen' : x.cells.toList.length = v.length := by simpa using hlen
            rw [hlen']
            exact ((hr.take off).append hrl).append (hr.drop _)
          · cases hf
end
end Go.AL

namespace Go.AL
open Go
set_option linter.unusedSectionVars false
variable [Inhabited Glob]

def Ty.known : Ty → Bool
  | .other => false
  | _ => true

section
variable {P : Program} (w : World)

theorem info_of {n : Nat} {ti : TyI} (h : TyOK P n ti) (hk : ti.t.known = true) : ∃ i, P.info? n = some i ∧ i.size = ti.size ∧ i.bytes = ti.bytes := by
  have hi := h.info
  cases ht : ti.t <;> simp only [ht] at hi <;> first
    | (obtain ⟨i, g1, g2, g3, _⟩ := hi; exact ⟨i, g1, g2, g3⟩)
    | simp [ht, Ty.known] at hk

theorem run_sizeOf_of {n : Nat} {ti : TyI} (h : TyOK P n ti) (hk : ti.t.known = true) : (sizeOf n).run P w = .ok ti.size w := by
  obtain ⟨i, g1, g2, _⟩ := info_of h hk
  simp [sizeOf, typeInfo, g1, g2]

theorem run_isAgg_of {n : Nat} {ti : TyI} (h : TyOK P n ti) (hk : ti.t.known = true) : (isAgg n).run P w = .ok ti.t.agg w := by
  have hd := h.desc
  unfold isAgg
  rw [Sem.run_bind]
  cases ht : ti.t <;> simp only [ht] at hd <;> first
    | (rw [run_underlying hd]; simp [Ty.agg])
    | (obtain ⟨F, hd, _⟩ := hd; rw [run_underlying hd]; simp [Ty.agg])
    | (obtain ⟨F, hd⟩ := hd; rw [run_underlying hd]; simp [Ty.agg])
    | (obtain ⟨a, b, c, hd⟩ := hd; rw [run_underlying hd]; simp [Ty.agg])
    | simp [ht, Ty.known] at hk

theorem Addr.add_eq (adr : Addr) (h : adr.spot = none) (j : Nat) : adr.add j = ⟨adr.block, adr.off + j, none⟩ := by
  obtain ⟨b, o, sp⟩ := adr
  simp only at h
  subst h
  exact Addr.add_lit b o j

def mkC (ti : TyI) (ws : List Value) : Value := if ti.t.agg then .agg ws.toArray else ws.headD undef

theorem run_loadVar_of {n : Nat} {ti : TyI} (h : TyOK P n ti) (hk : ti.t.known = true) (adr : Addr) (hs : adr.spot = none) (ws : List Value) (hl : ws.length = ti.size) (h1 : ti.t.agg = false → ti.size = 1)
    (hc : ∀ (j : Nat) v, ws[j]? = some v → w.cell? ⟨adr.block, adr.off + j, none⟩ = some v) : (loadVar n adr).run P w = .ok (mkC ti ws) w := by
  unfold loadVar mkC
  rw [Sem.run_bind, run_isAgg_of w h hk]
  simp only [Result.andThen_ok]
  cases ha : ti.t.agg with
  | true =>
    simp only [if_true, Sem.run_bind, run_sizeOf_of w h hk, Result.andThen_ok, ← hl]
    rw [run_loadCells_list w adr ws (fun j v hv => by rw [Addr.add_eq adr hs]; exact hc j v hv)]
    rfl
  | false =>
    have h1' := h1 ha
    rw [h1'] at hl
    obtain ⟨v, rfl⟩ := List.length_eq_one_iff.1 hl
    have := hc 0 v rfl
    have e : adr = ⟨adr.block, adr.off + 0, none⟩ := by cases adr; simp only at hs; subst hs; rfl
    rw [← e] at this
    simp [run_load, this]

theorem mkV_rep {I : IH} {τ : TH} {ρ : Nat → Nat} {m : Nat} {ti : TyI} {cs : List DV} {ws : List Value} (h : RepL I τ cs ws) (h1 : ti.t.agg = false → cs.length = 1) : RepA I τ ρ m (mkV ti cs) (mkC ti ws) := by
  unfold mkV mkC
  cases ha : ti.t.agg with
  | true => exact .agg _ _ h
  | false =>
    have h1' := h1 ha
    obtain ⟨c, rfl⟩ := List.length_eq_one_iff.1 h1'
    have hl := h.1
    simp only [List.length_cons, List.length_nil] at hl
    obtain ⟨v, rfl⟩ := List.length_eq_one_iff.1 hl.symm
    exact .d _ _ (h.2 0 c v rfl rfl)

end

section
variable {P : Program} {E : Ent} {s : AS} {ty : TypeId} {K : AV → AS → Prop}

/-! ### Loads and stores -/

theorem op_load_obj (TT : Tab P) {T : TypeId} {x : Operand} {o off : Nat} {cs : List DV} (hx : ev s x = .ptr o off) (ho : s.objs[o]? = some (.cells cs))
    (hk : (TT.T T).t.known = true) (hfit : off + (TT.T T).size ≤ cs.length) (h1 : (TT.T T).t.agg = false → (TT.T T).size = 1)
    (hK : K (mkV (TT.T T) ((cs.drop off).take (TT.T T).size)) s) : OpOK P E s (.load T x) ty K :=
  op_pure _ _ hK fun a w I τ ρ h h2 => by
    have hv := ev_rep h2 x
    rw [hx] at hv
    have hp := (rep_ptr hv).1
    obtain ⟨vs, T', hb, hr⟩ := h.obj o _ ho
    have hr' := (hr.drop off).take (TT.T T).size
    have hlen : ((vs.drop off).take (TT.T T).size).length = (TT.T T).size := by
      have := hr.1
      simp; omega
    refine ⟨mkC (TT.T T) ((vs.drop off).take (TT.T T).size), fun _ _ _ _ => ?_, mkV_rep hr' (fun ha => by rw [hr'.1, hlen]; exact h1 ha)⟩
    have := run_loadVar_of (P := P) w (TT.ok T) hk ⟨ρ o, off, none⟩ rfl _ hlen h1 (fun j v hv => by
      rw [List.getElem?_take] at hv
      split at hv
      · rw [List.getElem?_drop] at hv
        simpa [World.cell?, hb] using hv
      · cases hv)
    simp [execOp, hp, Instr.loadAt, Instr.sureAddr, this]

theorem op_load_elem (TT : Tab P) {T : TypeId} {x : Operand} {cs : List DV} (hx : ev s x = .elem cs)
    (hk : (TT.T T).t.known = true) (hfit : (TT.T T).size ≤ cs.length) (h1 : (TT.T T).t.agg = false → (TT.T T).size = 1)
    (hK : K (mkV (TT.T T) (cs.take (TT.T T).size)) s) : OpOK P E s (.load T x) ty K :=
  op_pure _ _ hK fun a w I τ ρ h h2 => by
    have hv := ev_rep h2 x
    rw [hx] at hv
    generalize hy : a.eval x = y at *
    cases hv with
    | elem _ vs adr hs hr hI =>
      have hr' := hr.take (TT.T T).size
      have hlen : (vs.take (TT.T T).size).length = (TT.T T).size := by
        have := hr.1
        simp; omega
      refine ⟨mkC (TT.T T) (vs.take (TT.T T).size), fun _ _ _ _ => ?_, mkV_rep hr' (fun ha => by rw [hr'.1, hlen]; exact h1 ha)⟩
      have := run_loadVar_of (P := P) w (TT.ok T) hk adr hs _ hlen h1 (fun j v hv => by
        rw [List.getElem?_take] at hv
        split at hv
        · exact h.iok _ _ _ (hI j v hv)
        · cases hv)
      simp [execOp, hy, Instr.loadAt, Instr.sureAddr, this]

theorem op_store (TT : Tab P) {T : TypeId} {x y : Operand} {o off : Nat} {cs ys : List DV} (hx : ev s x = .ptr o off) (ho : s.objs[o]? = some (.cells cs)) (hy : (ev s y).cells = some ys)
    (hk : (TT.T T).t.known = true) (hl : ys.length = (TT.T T).size) (hfit : off + ys.length ≤ cs.length)
    (hK : K .unk { s with objs := s.objs.set o (.cells (layL cs off ys)) }) : OpOK P E s (.store T x y) ty K := by
  intro a w hs
  obtain ⟨I, τ, ρ, h, h2⟩ := hs.ex
  have hv := ev_rep h2 x
  rw [hx] at hv
  obtain ⟨hp, hlt⟩ := rep_ptr hv
  have hys := (ev_rep h2 y).cells hy
  obtain ⟨vs, T', hb, hr⟩ := h.obj o _ ho
  have hyl : (a.eval y).cells.size = ys.length := by have := hys.1; simpa using this.symm
  have hst := run_storeCells_at P (ρ o) off T' (a.eval y).cells.toList 0 vs.toArray w hb (by have := hr.1; simp; omega) hys.one
  simp only [Nat.add_zero] at hst
  refine .inr (.inl ⟨w.setRow (ρ o) (vs.take off ++ (a.eval y).cells.toList ++ vs.drop (off + (a.eval y).cells.toList.length)).toArray, fun _ _ _ _ => ?_, _, _, hK, rfl, I, τ, ρ, h.setObj o hlt _ _ ?_ ?_ ?_ rfl rfl rfl, fun t => ?_, .unk _⟩)
  · simp only [execOp, Instr.storeAt, hp, Instr.sureAddr, storeVar, Sem.run_bind, Sem.run_pure, Result.andThen_ok, run_sizeOf_of w (TT.ok T) hk, hyl, hl]
    simp [hst]
  · simp
  · intro b hb'
    exact setRow_other w (ρ o) b _ hb'
  · refine ⟨vs.take off ++ (a.eval y).cells.toList ++ vs.drop (off + ys.length), T', ?_, ?_⟩
    · rw [setRow_heap w (ρ o) vs.toArray _ T' _ hb]
      simp [hyl]
    · unfold layL
      exact ((hr.take off).append hys).append (hr.drop _)
  · exact (h2 t).mono ⟨Ext.refl I τ, by simp, fun _ _ => rfl⟩

/-! ### Addresses -/

theorem fieldOff (TT : Tab P) {T : TypeId} {fs : List (Nat × Nat)} (ht : (TT.T T).t = .strct fs) {f off t : Nat} (hf : fs[f]? = some (off, t)) :
    ∃ F : Array Field, P.underlying T = some (.struct F) ∧ ∃ g, F[f]? = some g ∧ g.offset = off ∧ g.type = t := by
  have hd := (TT.ok T).desc
  simp only [ht] at hd
  obtain ⟨F, h1, h2⟩ := hd
  refine ⟨F, h1, ?_⟩
  rw [← h2] at hf
  simp only [List.getElem?_map, Array.getElem?_toList, Option.map_eq_some_iff] at hf
  obtain ⟨g, hg, he⟩ := hf
  simp only [Prod.mk.injEq] at he
  exact ⟨g, hg, he.1, he.2⟩

theorem op_fieldAddr_obj (TT : Tab P) {T : TypeId} {x : Operand} {o off f fo ft : Nat} {fs : List (Nat × Nat)} (hx : ev s x = .ptr o off) (ht : (TT.T T).t = .strct fs) (hf : fs[f]? = some (fo, ft))
    (hk : (TT.T ft).t.known = true) (hz : (TT.T ft).size ≠ 0) (hK : K (.ptr o (off + fo)) s) : OpOK P E s (.fieldAddr T x f) ty K :=
  op_pure _ _ hK fun a w I τ ρ h h2 => by
    have hv := ev_rep h2 x
    rw [hx] at hv
    obtain ⟨hp, hlt⟩ := rep_ptr hv
    obtain ⟨F, hu, g, hg, rfl, rfl⟩ := fieldOff TT ht hf
    refine ⟨.pointer (some ⟨ρ o, off + g.offset, none⟩), fun _ _ _ _ => ?_, .ptr o (off + g.offset) hlt⟩
    simp [execOp, hp, Instr.fieldAt, Instr.sureAddr, run_underlying hu, hg, fieldPlace, run_sizeOf_of w (TT.ok g.type) hk, hz, Addr.add_lit]

theorem op_fieldAddr_elem (TT : Tab P) {T : TypeId} {x : Operand} {cs : List DV} {f fo ft : Nat} {fs : List (Nat × Nat)} (hx : ev s x = .elem cs) (ht : (TT.T T).t = .strct fs) (hf : fs[f]? = some (fo, ft))
    (hk : (TT.T ft).t.known = true) (hz : (TT.T ft).size ≠ 0) (hK : K (.elem (cs.drop fo)) s) : OpOK P E s (.fieldAddr T x f) ty K :=
  op_pure _ _ hK fun a w I τ ρ h h2 => by
    have hv := ev_rep h2 x
    rw [hx] at hv
    obtain ⟨F, hu, g, hg, rfl, rfl⟩ := fieldOff TT ht hf
    generalize hy : a.eval x = y at *
    cases hv with
    | elem _ vs adr hs hr hI =>
      refine ⟨.pointer (some ⟨adr.block, adr.off + g.offset, none⟩), fun _ _ _ _ => ?_, .elem _ (vs.drop g.offset) _ rfl (hr.drop _) (fun j v hv => ?_)⟩
      · simp [execOp, hy, Instr.fieldAt, Instr.sureAddr, run_underlying hu, hg, fieldPlace, run_sizeOf_of w (TT.ok g.type) hk, hz, Addr.add_eq adr hs]
      · rw [List.getElem?_drop] at hv
        have := hI _ _ hv
        simpa [Nat.add_assoc] using this

theorem op_field (TT : Tab P) {T : TypeId} {x : Operand} {cs : List DV} {f fo ft : Nat} {fs : List (Nat × Nat)} (hx : ev s x = .agg cs) (ht : (TT.T T).t = .strct fs) (hf : fs[f]? = some (fo, ft))
    (hk : (TT.T ft).t.known = true) (hfit : fo + (TT.T ft).size ≤ cs.length) (h1 : (TT.T ft).t.agg = false → (TT.T ft).size = 1)
    (hK : K (mkV (TT.T ft) ((cs.drop fo).take (TT.T ft).size)) s) : OpOK P E s (.field T x f) ty K :=
  op_pure _ _ hK fun a w I τ ρ h h2 => by
    have hv := ev_rep h2 x
    rw [hx] at hv
    obtain ⟨F, hu, g, hg, rfl, rfl⟩ := fieldOff TT ht hf
    generalize hy : a.eval x = y at *
    cases hv with
    | agg _ vs hr =>
      have hr' := (hr.drop g.offset).take (TT.T g.type).size
      have hvl := hr.1
      have hlen : ((vs.drop g.offset).take (TT.T g.type).size).length = (TT.T g.type).size := by simp; omega
      refine ⟨mkC (TT.T g.type) ((vs.drop g.offset).take (TT.T g.type).size), fun _ _ _ _ => ?_, mkV_rep hr' (fun ha => by rw [hr'.1, hlen]; exact h1 ha)⟩
      simp only [execOp, hy, Instr.field, Sem.run_bind, run_underlying hu, Result.andThen_ok, hg, asAgg, Sem.run_pure, part, run_isAgg_of w (TT.ok g.type) hk]
      unfold mkC
      cases ha : (TT.T g.type).t.agg with
      | true =>
        simp [run_sizeOf_of w (TT.ok g.type) hk, List.extract_eq_take_drop]
      | false =>
        have := h1 ha
        have hlt : g.offset < vs.length := by omega
        simp [this, List.getElem?_eq_getElem hlt, List.take_one, List.head?_drop]

end
end Go.AL

namespace Go.AL
open Go
set_option linter.unusedSectionVars false
variable [Inhabited Glob]

section
variable {P : Program} (w : World)

theorem run_mapM_ok {α β : Type} (g : α → Sem β) (f : α → β) (l : List α) (h : ∀ x ∈ l, ∀ w, (g x).run P w = .ok (f x) w) : (l.mapM g).run P w = .ok (l.map f) w := by
  induction l generalizing w with
  | nil => simp
  | cons x l ih =>
    simp [List.mapM_cons, h x (by simp), ih w (fun y hy => h y (by simp [hy]))]

theorem run_amapM_ok {α β : Type} (g : α → Sem β) (f : α → β) (l : Array α) (h : ∀ x ∈ l, ∀ w, (g x).run P w = .ok (f x) w) : (l.mapM g).run P w = .ok (l.map f) w := by
  rw [Array.mapM_eq_mapM_toList, Sem.run_map, run_mapM_ok w g f l.toList (fun x hx => h x (by simpa using hx))]
  simp only [Result.andThen_ok]
  congr 1
  apply Array.ext'
  simp
end

def placeS {P : Program} (TT : Tab P) (fs : List (Nat × Nat)) (i : Nat) : Option (Nat × Nat) := fs[i]?.map fun p => (p.1, (TT.T p.2).size)
def placeE (sz : Nat) (i : Nat) : Option (Nat × Nat) := some (i * sz, sz)

def chunk (sz : Nat) : Nat → List DV → List (List DV)
  | 0, _ => []
  | n + 1, l => l.take sz :: chunk sz n (l.drop sz)

theorem chunk_length (sz : Nat) : ∀ (n : Nat) (l : List DV), (chunk sz n l).length = n
  | 0, _ => rfl
  | n + 1, l => by simp [chunk, chunk_length sz n]

theorem chunk_get (sz : Nat) : ∀ (n : Nat) (l : List DV) (i : Nat) x, (chunk sz n l)[i]? = some x → i < n ∧ x = (l.drop (i * sz)).take sz
  | 0, _, i, x, h => by simp [chunk] at h
  | n + 1, l, 0, x, h => by
    simp only [chunk, List.getElem?_cons_zero, Option.some.injEq] at h
    subst h
    simp
  | n + 1, l, i + 1, x, h => by
    simp only [chunk, List.getElem?_cons_succ] at h
    obtain ⟨h1, h2⟩ := chunk_get sz n _ i x h
    refine ⟨by omega, ?_⟩
    rw [h2, List.drop_drop]
    congr 2
    rw [Nat.add_mul]; omega

def zeros (z : List DV) : Nat → List DV
  | 0 => []
  | n + 1 => z ++ zeros z n

theorem zeros_length (z : List DV) : ∀ n, (zeros z n).length = n * z.length
  | 0 => by simp [zeros]
  | n + 1 => by simp [zeros, zeros_length z n, Nat.add_mul]; omega

theorem zeros_all {z : List DV} (h : z.all DV.isZ = true) : ∀ n, (zeros z n).all DV.isZ = true
  | 0 => rfl
  | n + 1 => by simp only [zeros, List.all_append, h, zeros_all h n, Bool.and_self]

theorem range_zeros (z : List DV) (hz : 0 < z.length) : ∀ n, ((Array.range (n * z.length)).map (fun i => (z.map DV.zv).toArray[i % (z.map DV.zv).toArray.size]!)).toList = (zeros z n).map DV.zv := by
  intro n
  apply List.ext_getElem?
  intro i
  simp only [Array.toList_map, Array.toList_range, List.getElem?_map]
  have hget : ∀ n i, i < n * z.length → (zeros z n)[i]? = z[i % z.length]? := by
    intro n
    induction n with
    | zero => intro i hi; simp at hi
    | succ n ih =>
      intro i hi
      simp only [zeros]
      by_cases hlt : i < z.length
      · rw [List.getElem?_append_left hlt, Nat.mod_eq_of_lt hlt]
      · rw [List.getElem?_append_right (by omega), ih (i - z.length) (by rw [Nat.add_mul, Nat.one_mul] at hi; omega), Nat.mod_eq_sub_mod (a := i) (by omega)]
  by_cases hi : i < n * z.length
  · have hm := Nat.mod_lt i hz
    rw [hget n i hi, List.getElem?_range hi]
    simp [hm]
  · rw [List.getElem?_eq_none (by simp; omega), List.getElem?_eq_none (by simp [zeros_length]; omega)]
    rfl

section
variable {P : Program} {E : Ent} {s : AS} {ty : TypeId} {K : AV → AS → Prop}

/-- The parts of a literal, as the walk has them. -/
def partsV (s : AS) (parts : Array (Nat × Operand)) : List (Nat × Option (List DV)) := parts.toList.map fun p => (p.1, (ev s p.2).cells)

theorem parts_ok {I : IH} {τ : TH} {ρ : Nat → Nat} {a : Act} (h2 : ∀ t, RepA I τ ρ s.objs.length (getE s.env t) (a.tmps.getD t undef)) (parts : Array (Nat × Operand)) :
    (partsV s parts).length = (parts.map fun (x : Nat × Operand) => (x.1, a.eval x.2)).toList.length ∧
    ∀ (i : Nat) p q, (partsV s parts)[i]? = some p → ((parts.map fun (x : Nat × Operand) => (x.1, a.eval x.2)).toList)[i]? = some q → p.1 = q.1 ∧ ∀ c, p.2 = some c → RepL I τ c q.2.cells.toList := by
  refine ⟨by simp [partsV], fun i p q hp hq => ?_⟩
  simp only [partsV, List.getElem?_map, Array.toList_map, Array.getElem?_toList, Option.map_eq_some_iff] at hp hq
  obtain ⟨x, hx, rfl⟩ := hp
  obtain ⟨y, hy, rfl⟩ := hq
  rw [hx] at hy
  cases hy
  exact ⟨rfl, fun c hc => (ev_rep h2 x.2).cells hc⟩

theorem op_build (TT : Tab P) {T : TypeId} {parts : Array (Nat × Operand)} {fs : List (Nat × Nat)} {z out : List DV} (ht : (TT.T T).t = .strct fs) (hz : (TT.T T).zero = some z)
    (hk : fs.all (fun p => (TT.T p.2).t.known) = true) (hf : fillL (placeS TT fs) z (partsV s parts) = some out) (hK : K (.agg out) s) : OpOK P E s (.build T parts) ty K :=
  op_pure _ _ hK fun a w I τ ρ h h2 => by
    have hne : (TT.T T).t ≠ .other := by rw [ht]; exact fun e => by cases e
    obtain ⟨g1, g2, g3, g4⟩ := zeroValue_run (TT.ok T) hne hz w
    have hagg : (TT.T T).t.agg = true := by rw [ht]; rfl
    simp only [hagg, if_true] at g1
    have hd := (TT.ok T).desc
    simp only [ht] at hd
    obtain ⟨F, hu, hF⟩ := hd
    obtain ⟨p1, p2⟩ := parts_ok h2 parts
    have hplace : ∀ i, placeS TT fs i = (F.map fun (f : Field) => (f.offset, (TT.T f.type).size))[i]? := by
      intro i
      simp only [placeS, ← hF, List.getElem?_map, Array.getElem?_toList, Array.getElem?_map, Option.map_map]
      rfl
    have hplaces : (F.mapM fun (f : Field) => do pure (f.offset, ← sizeOf f.type)).run P w = .ok (F.map fun (f : Field) => (f.offset, (TT.T f.type).size)) w := by
      refine run_amapM_ok w _ _ F fun f hf w => ?_
      have : (TT.T f.type).t.known = true := by
        rw [List.all_eq_true] at hk
        refine hk (f.offset, f.type) ?_
        rw [← hF]
        exact List.mem_map.2 ⟨f, by simpa using hf, rfl⟩
      simp [run_sizeOf_of w (TT.ok f.type) this]
    have hpl : placeS TT fs = fun i => (F.map fun (f : Field) => (f.offset, (TT.T f.type).size))[i]? := funext hplace
    rw [hpl] at hf
    obtain ⟨ws, q1, q2⟩ := fill_ok (I := I) (τ := τ) _ _ _ _ (z.map DV.zv).toArray out p1 p2 (by simpa using RepL.zeros g2) hf
    refine ⟨.agg ws, fun _ _ _ _ => ?_, ?_⟩
    · simp only [execOp, Instr.build, Sem.run_bind, g1, Result.andThen_ok, Value.cells, Sem.run_pure, run_underlying hu, hplaces, q1]
    · have := RepA.agg (I := I) (τ := τ) (ρ := ρ) (n := s.objs.length) out ws.toList q2
      simpa using this

theorem RepD_full {I : IH} {τ : TH} (b : Nat) (sz n : Nat) (out : List DV) (ws : List Value) (hr : RepL I τ out ws) (hl : out.length = n * sz) (hn : n ≤ 9223372036854775807)
    (hI : ∀ (j : Nat) v, ws[j]? = some v → I b j = some v) : RepD I τ (.sl sz (chunk sz n out) .full) (.slice (some ⟨b, 0, none⟩) n n) := by
  have hget : ∀ (i : Nat) x (j : Nat) c, (chunk sz n out)[i]? = some x → x[j]? = some c → out[i * sz + j]? = some c := by
    intro i x j c hx hc
    obtain ⟨_, rfl⟩ := chunk_get sz n out i x hx
    rw [List.getElem?_take] at hc
    split at hc
    · rw [List.getElem?_drop] at hc; exact hc
    · cases hc
  have h := RepD.sl (I := I) (τ := τ) sz (chunk sz n out) .full (some ⟨b, 0, none⟩) n (fun k => ws.getD k undef) ?_ (by rw [chunk_length]; exact Nat.le_refl _) hn (by simp) (by rintro _ adr ⟨⟩; rfl) ?_ ?_ (by rw [chunk_length]; rfl)
  · rw [chunk_length] at h; exact h
  · intro x hx
    obtain ⟨i, hi⟩ := List.getElem?_of_mem hx
    obtain ⟨hi', rfl⟩ := chunk_get sz n out i x hi
    have : (i + 1) * sz ≤ n * sz := Nat.mul_le_mul_right _ hi'
    rw [Nat.add_mul] at this
    simp; omega
  · rintro adr ⟨⟩ i x j c hx hc
    obtain ⟨v, hv, _⟩ := hr.get (hget i x j c hx hc)
    simp only [Nat.zero_add]
    rw [hI _ _ hv]
    simp [List.getD, hv]
  · intro i x j c hx hc
    obtain ⟨v, hv, hd⟩ := hr.get (hget i x j c hx hc)
    simpa [List.getD, hv] using hd

theorem fillL_length (place : Nat → Option (Nat × Nat)) : ∀ (ps : List (Nat × Option (List DV))) (cs out : List DV), fillL place cs ps = some out → out.length = cs.length := by
  intro ps
  induction ps with
  | nil => intro cs out h; simp only [fillL, Option.some.injEq] at h; rw [h]
  | cons p ps ih =>
    intro cs out h
    obtain ⟨i, v⟩ := p
    simp only [fillL] at h
    split at h
    · split at h
      · rename_i hc
        rw [ih _ _ h]
        simp [layL]; omega
      · cases h
    · cases h

/-- A new block that is known whole, and a slice over it. -/
theorem op_newSlice (op : Op) (T : TypeId) (sz n : Nat) (out : List DV) (hl : out.length = n * sz) (hn : n ≤ 9223372036854775807) (hk : K (.d (.sl sz (chunk sz n out) .full)) s)
    (h : ∀ (a : Act) (w : World) I τ ρ, St E s.objs s.toks s.nt I τ ρ w → (∀ t, RepA I τ ρ s.objs.length (getE s.env t) (a.tmps.getD t undef)) →
      ∃ vs, RepL I τ out vs ∧ (∀ dst pos after guard, (execOp a.eval ⟨dst, op, ty, pos, after, guard⟩).run P w = .ok (.value (.slice (some ⟨w.heap.size, 0, none⟩) n n)) (w.alloc (.cells vs.toArray T)))) : OpOK P E s op ty K := by
  intro a w hs
  obtain ⟨I, τ, ρ, h1, h2⟩ := hs.ex
  obtain ⟨vs, hv, hx⟩ := h a w I τ ρ h1 h2
  obtain ⟨g1, g2⟩ := h1.allocPub vs T
  have g3 : Ext2 I τ ρ s.objs.length (pub I w.heap.size vs) τ ρ s.objs.length := ⟨g2, Nat.le_refl _, fun _ _ => rfl⟩
  refine .inl ⟨_, _, hx, _, _, hk, rfl, _, τ, ρ, g1, fun t => (h2 t).mono g3, .d _ _ ?_⟩
  exact RepD_full w.heap.size sz n out vs (hv.mono g2) hl hn (fun j v hj => by simp [pub, hj])

theorem op_buildSlice (TT : Tab P) {T e n : Nat} {parts : Array (Nat × Operand)} {z out : List DV} (ht : (TT.T T).t = .slice e) (hke : (TT.T e).t.known = true) (hz : (TT.T e).zero = some z)
    (hsz : 0 < (TT.T e).size) (hlim : n * (TT.T e).size ≤ 16777216)
    (hf : fillL (placeE (TT.T e).size) (zeros z n) (partsV s parts) = some out) (hK : K (.d (.sl (TT.T e).size (chunk (TT.T e).size n out) .full)) s) : OpOK P E s (.buildSlice T n parts) ty K := by
  have hne : (TT.T e).t ≠ .other := by intro he; rw [he] at hke; cases hke
  have hz0 := zeroValue_run (TT.ok e) hne hz
  have hzl : z.length = (TT.T e).size := (hz0 default).2.2.1
  have hlen : out.length = n * (TT.T e).size := by rw [fillL_length _ _ _ _ hf, zeros_length, hzl]
  have hnle : n ≤ 16777216 := by
    have := Nat.mul_le_mul_left n hsz
    omega
  refine op_newSlice _ e (TT.T e).size n out hlen (by omega) hK fun a w I τ ρ h h2 => ?_
  obtain ⟨g1, g2, g3, g4⟩ := hz0 w
  have hcells := zeroCells_eq g3 g4 g2
  generalize (if (TT.T e).t.agg then Value.agg (z.map DV.zv).toArray else (z.map DV.zv).headD undef) = zz at *
  obtain ⟨p1, p2⟩ := parts_ok h2 parts
  have hd := (TT.ok T).desc
  simp only [ht] at hd
  have hlim' : ¬ (n * (TT.T e).size > 2 ^ 24) := by omega
  rcases Nat.eq_zero_or_pos n with rfl | hn
  · obtain ⟨ws, q1, q2⟩ := fill_ok (I := I) (τ := τ) (placeE (TT.T e).size) (partsV s parts) _ (zeros z 0) #[] out p1 p2 (RepL.nil I τ) hf
    refine ⟨ws.toList, q2, fun _ _ _ _ => ?_⟩
    unfold placeE at q1
    simp only [Array.toList_map] at q1
    simp [execOp, Instr.buildSlice, run_underlying hd, run_sizeOf_of w (TT.ok e) hke, Array.range_zero', q1, newRow]
  · have hne0 : ¬ n * (TT.T e).size = 0 := by have := Nat.mul_pos hn hsz; omega
    obtain ⟨ws, q1, q2⟩ := fill_ok (I := I) (τ := τ) (placeE (TT.T e).size) (partsV s parts) _ (zeros z n) ((Array.range (n * (TT.T e).size)).map (fun i => (z.map DV.zv).toArray[i % (z.map DV.zv).toArray.size]!)) out p1 p2
      (by rw [← hzl, range_zeros z (by omega) n]; exact RepL.zeros (zeros_all g2 n)) hf
    refine ⟨ws.toList, q2, fun _ _ _ _ => ?_⟩
    unfold placeE at q1
    simp only [execOp, Instr.buildSlice, Sem.run_bind, run_underlying hd, Result.andThen_ok, run_sizeOf_of w (TT.ok e) hke, if_neg hlim', if_neg hne0, Sem.run_pure, Sem.run_ite, g1, hcells, q1]
    simp [newRow]

end
end Go.AL

namespace Go.AL
open Go
set_option linter.unusedSectionVars false
variable [Inhabited Glob]

section
variable {P : Program} {E : Ent} {s : AS} {ty : TypeId} {K : AV → AS → Prop}

theorem rep_sl {I : IH} {τ : TH} {ρ : Nat → Nat} {n sz : Nat} {xs : List (List DV)} {own : Own} {x : Value} (h : RepA I τ ρ n (.d (.sl sz xs own)) x) : RepD I τ (.sl sz xs own) x := by
  cases h with
  | d _ _ h => exact h

theorem op_indexAddr (TT : Tab P) {T e : Nat} {x y : Operand} {sz : Nat} {xs : List (List DV)} {own : Own} {k : IntKind} {i : Int} (hx : ev s x = .d (.sl sz xs own)) (hy : ev s y = .d (.int k i))
    (ht : (TT.T T).t = .slice e) (hke : (TT.T e).t.known = true) (hsz : (TT.T e).size = sz) (h0 : 0 ≤ i) (h1 : i.toNat < xs.length)
    (hK : K (.elem (xs.getD i.toNat [])) s) : OpOK P E s (.indexAddr T x y) ty K :=
  op_pure _ _ hK fun a w I τ ρ h h2 => by
    have hv := ev_rep h2 x
    rw [hx] at hv
    have hv' := rep_sl hv
    have hi := ev_rep h2 y
    rw [hy] at hi
    have hi' := rep_int hi
    have hd := (TT.ok T).desc
    simp only [ht] at hd
    generalize hyy : a.eval x = vx at *
    cases hv' with
    | sl _ _ _ adr cap vals hs hcap hmax hnil hadr hI hrep hown =>
      cases adr with
      | none => have := hnil rfl; omega
      | some adr =>
        have hspot := hadr (by omega) adr rfl
        have hlt : i < xs.length := by omega
        have hget : xs[i.toNat]? = some (xs.getD i.toNat []) := by simp [List.getD, List.getElem?_eq_getElem h1]
        have hlen : (xs.getD i.toNat []).length = sz := hs _ (List.mem_of_getElem? hget)
        refine ⟨.pointer (some ⟨adr.block, adr.off + i.toNat * sz, none⟩), fun _ _ _ _ => ?_, .elem _ ((List.range sz).map fun j => vals (i.toNat * sz + j)) _ rfl ⟨by rw [hlen]; simp, fun j c v hc hv => ?_⟩ (fun j v hv => ?_)⟩
        · simp only [execOp, hyy, hi']
          simp [run_indexAt_slice w T adr xs.length cap k i (by rw [hd]; simp [Program.elem, hd]), h0, hlt, Program.elem, hd, run_sizeOf_of w (TT.ok e) hke, hsz, Addr.add_eq adr hspot]
        · have hj : j < sz := by rw [← hlen]; exact (List.getElem?_eq_some_iff.1 hc).1
          rw [List.getElem?_map, List.getElem?_range hj] at hv
          simp only [Option.map_some, Option.some.injEq] at hv
          subst hv
          exact hrep _ _ _ _ hget hc
        · simp only [List.getElem?_map, Option.map_eq_some_iff] at hv
          obtain ⟨j', hj', rfl⟩ := hv
          have hjl : j < sz := by have := (List.getElem?_eq_some_iff.1 hj').1; simpa using this
          rw [List.getElem?_range hjl] at hj'
          cases hj'
          have := hI adr rfl i.toNat _ j _ hget (List.getElem?_eq_getElem (by rw [hlen]; exact hjl))
          simpa [Nat.add_assoc] using this

theorem rep_arr {I : IH} {τ : TH} {ρ : Nat → Nat} {n o m sz : Nat} {x : Value} (h : RepA I τ ρ n (.arr o m sz) x) : x = .slice (some ⟨ρ o, 0, none⟩) m m ∧ o < n ∧ m ≤ 9223372036854775807 := by
  cases h with
  | arr _ _ _ h hn => exact ⟨rfl, h, hn⟩

theorem op_indexAddr_arr (TT : Tab P) {T e : Nat} {x y : Operand} {sz o m : Nat} {k : IntKind} {i : Int} (hx : ev s x = .arr o m sz) (hy : ev s y = .d (.int k i))
    (ht : (TT.T T).t = .slice e) (hke : (TT.T e).t.known = true) (hsz : (TT.T e).size = sz) (h0 : 0 ≤ i) (h1 : i.toNat < m)
    (hK : K (.ptr o (i.toNat * sz)) s) : OpOK P E s (.indexAddr T x y) ty K :=
  op_pure _ _ hK fun a w I τ ρ h h2 => by
    have hv := ev_rep h2 x
    rw [hx] at hv
    obtain ⟨hv', hlt, _⟩ := rep_arr hv
    have hi := ev_rep h2 y
    rw [hy] at hi
    have hi' := rep_int hi
    have hd := (TT.ok T).desc
    simp only [ht] at hd
    have hlt' : i < m := by omega
    refine ⟨.pointer (some ⟨ρ o, i.toNat * sz, none⟩), fun _ _ _ _ => ?_, .ptr _ _ hlt⟩
    simp only [execOp, hv', hi']
    simp [run_indexAt_slice w T ⟨ρ o, 0, none⟩ m m k i (by rw [hd]; simp [Program.elem, hd]), h0, hlt', Program.elem, hd, run_sizeOf_of w (TT.ok e) hke, hsz, Addr.add_lit]

theorem op_index_str (TT : Tab P) {T : Nat} {x y : Operand} {l : List UInt8} {k : IntKind} {i : Int} (hx : ev s x = .d (.str l)) (hy : ev s y = .d (.int k i))
    (ht : (TT.T T).t = .str) (h0 : 0 ≤ i) (h1 : i.toNat < l.length)
    (hK : K (.d (.int .u8 ((l.getD i.toNat 0).toNat : Int))) s) : OpOK P E s (.index T x y) ty K :=
  op_pure _ _ hK fun a w I τ ρ h h2 => by
    have hv := ev_rep h2 x
    rw [hx] at hv
    have hv' := (rep_str hv).1
    have hi := ev_rep h2 y
    rw [hy] at hi
    have hi' := rep_int hi
    have hd := (TT.ok T).desc
    simp only [ht] at hd
    refine ⟨.int .u8 ((l.getD i.toNat 0).toNat : Int), fun _ _ _ _ => ?_, .d _ _ (.int _ _)⟩
    have hg : (ByteArray.mk l.toArray)[i.toNat]? = some (l.getD i.toNat 0) := by
      rw [ByteArray.getElem?_lt' _ _ (by show i.toNat < l.toArray.size; simpa using h1)]
      have : (ByteArray.mk l.toArray)[i.toNat]'(by show i.toNat < l.toArray.size; simpa using h1) = l[i.toNat] := rfl
      rw [this]
      simp [List.getD, List.getElem?_eq_getElem h1]
    simp [execOp, hv', hi', Instr.index, asIntOf, run_underlying hd, h0, hg]

/-! ### Lengths -/

theorem op_len (TT : Tab P) {T : Nat} {x : Operand} {sz : Nat} {xs : List (List DV)} {own : Own} {tys : Array TypeId} (hx : ev s x = .d (.sl sz xs own)) {e : Nat} (ht : (TT.T T).t = .slice e) (htys : tys = #[T])
    (hK : xs.length ≤ 9223372036854775807 → K (.d (.int .i64 xs.length)) s) : OpOK P E s (.call ⟨.builtin .len, #[x], tys⟩) ty K := by
  intro a w hs
  obtain ⟨I, τ, ρ, h1, h2⟩ := hs.ex
  have hv := ev_rep h2 x
  rw [hx] at hv
  have hv' := rep_sl hv
  have hd := (TT.ok T).desc
  simp only [ht] at hd
  generalize hyy : a.eval x = vx at *
  cases hv' with
  | sl _ _ _ adr cap vals hs hcap hmax hnil hadr hI hrep hown =>
    refine .inl ⟨.int .i64 xs.length, w, fun _ _ _ _ => ?_, _, s, hK (by omega), rfl, I, τ, ρ, h1, h2, .d _ _ (.int _ _)⟩
    simp [execOp, resolve, invoke, builtin, htys, hyy, Builtin.len_, run_underlying hd, goInt]

theorem op_len_arr (TT : Tab P) {T : Nat} {x : Operand} {o m sz : Nat} {tys : Array TypeId} (hx : ev s x = .arr o m sz) {e : Nat} (ht : (TT.T T).t = .slice e) (htys : tys = #[T])
    (hK : m ≤ 9223372036854775807 → K (.d (.int .i64 m)) s) : OpOK P E s (.call ⟨.builtin .len, #[x], tys⟩) ty K := by
  intro a w hs
  obtain ⟨I, τ, ρ, h1, h2⟩ := hs.ex
  have hv := ev_rep h2 x
  rw [hx] at hv
  obtain ⟨hv', _, hm⟩ := rep_arr hv
  have hd := (TT.ok T).desc
  simp only [ht] at hd
  refine .inl ⟨.int .i64 m, w, fun _ _ _ _ => ?_, _, s, hK hm, rfl, I, τ, ρ, h1, h2, .d _ _ (.int _ _)⟩
  simp [execOp, resolve, invoke, builtin, htys, hv', Builtin.len_, run_underlying hd, goInt]

theorem op_len_str (TT : Tab P) {T : Nat} {x : Operand} {l : List UInt8} {tys : Array TypeId} (hx : ev s x = .d (.str l)) (ht : (TT.T T).t = .str) (htys : tys = #[T])
    (hK : l.length ≤ 9223372036854775807 → K (.d (.int .i64 l.length)) s) : OpOK P E s (.call ⟨.builtin .len, #[x], tys⟩) ty K := by
  intro a w hs
  obtain ⟨I, τ, ρ, h1, h2⟩ := hs.ex
  have hv := ev_rep h2 x
  rw [hx] at hv
  obtain ⟨hv', hm⟩ := rep_str hv
  have hd := (TT.ok T).desc
  simp only [ht] at hd
  refine .inl ⟨.int .i64 l.length, w, fun _ _ _ _ => ?_, _, s, hK hm, rfl, I, τ, ρ, h1, h2, .d _ _ (.int _ _)⟩
  have hsz : (ByteArray.mk l.toArray).size = l.length := by show l.toArray.size = _; simp
  simp [execOp, resolve, invoke, builtin, htys, hv', Builtin.len_, run_underlying hd, goInt, hsz]

/-! ### Integers -/

/-- The integer operators; none where the call would stop. -/
def binI (op : BinOp) (k : IntKind) (a b : Int) : Option DV :=
  match op with
  | .add => some (.int k (k.wrap (a + b)))
  | .sub => some (.int k (k.wrap (a - b)))
  | .mul => some (.int k (k.wrap (a * b)))
  | .quo => if b = 0 then none else some (.int k (k.wrap (a.tdiv b)))
  | .rem => if b = 0 then none else some (.int k (a.tmod b))
  | .and => some (.int k (k.wrap (BitVec.ofInt k.bits a &&& BitVec.ofInt k.bits b).toNat))
  | .or => some (.int k (k.wrap (BitVec.ofInt k.bits a ||| BitVec.ofInt k.bits b).toNat))
  | .xor => some (.int k (k.wrap (BitVec.ofInt k.bits a ^^^ BitVec.ofInt k.bits b).toNat))
  | .eql => some (.bool (a == b))
  | .neq => some (.bool (a != b))
  | .lss => some (.bool (decide (a < b)))
  | .leq => some (.bool (decide (a ≤ b)))
  | .gtr => some (.bool (decide (b < a)))
  | .geq => some (.bool (decide (b ≤ a)))
  | _ => none

theorem op_bin_int {op : BinOp} {T U : TypeId} {x y : Operand} {k : IntKind} {m n : Int} {r : DV} (hx : ev s x = .d (.int k m)) (hy : ev s y = .d (.int k n)) (hr : binI op k m n = some r)
    (hK : K (.d r) s) : OpOK P E s (.binOp op T x y U) ty K :=
  op_pure _ _ hK fun a w I τ ρ h h2 => by
    have hv := ev_rep h2 x
    rw [hx] at hv
    have h3 := rep_int hv
    have hw := ev_rep h2 y
    rw [hy] at hw
    have h4 := rep_int hw
    cases op <;> simp only [binI, Option.some.injEq, reduceCtorEq] at hr <;> first
      | (subst hr
         refine ⟨_, fun _ _ _ _ => by simp [execOp, h3, h4, eqGuard_at_int, binOp, Op.intArith, Op.intBits, Op.intCmp]; rfl, .d _ _ (by constructor)⟩)
      | (split at hr
         · cases hr
         · rename_i hb
           cases hr
           refine ⟨_, fun _ _ _ _ => by simp [execOp, h3, h4, eqGuard_at_int, binOp, Op.intDiv, hb]; rfl, .d _ _ (by constructor)⟩)
      | cases hr

def binSh (op : BinOp) (k : IntKind) (a b : Int) : Option DV :=
  if b < 0 then none else
  match op with
  | .shl => some (.int k (k.wrap (a * 2 ^ (min b.toNat k.bits))))
  | .shr => some (.int k (a.fdiv (2 ^ (min b.toNat k.bits))))
  | _ => none

theorem op_bin_sh {op : BinOp} {T U : TypeId} {x y : Operand} {k k' : IntKind} {m n : Int} {r : DV} (hx : ev s x = .d (.int k m)) (hy : ev s y = .d (.int k' n)) (hr : binSh op k m n = some r)
    (hK : K (.d r) s) : OpOK P E s (.binOp op T x y U) ty K :=
  op_pure _ _ hK fun a w I τ ρ h h2 => by
    have hv := ev_rep h2 x
    rw [hx] at hv
    have h3 := rep_int hv
    have hw := ev_rep h2 y
    rw [hy] at hw
    have h4 := rep_int hw
    unfold binSh at hr
    split at hr
    · cases hr
    · rename_i hb
      cases op <;> simp only [Option.some.injEq, reduceCtorEq] at hr <;>
        (subst hr; refine ⟨_, fun _ _ _ _ => by simp [execOp, h3, h4, eqGuard_at_int, binOp, Op.shift, hb]; rfl, .d _ _ (by constructor)⟩)

def binS (op : BinOp) (a b : List UInt8) : Option DV :=
  match op with
  | .add => if a.length + b.length ≤ 9223372036854775807 then some (.str (a ++ b)) else none
  | .eql => some (.bool (a == b))
  | .neq => some (.bool (!(a == b)))
  | .lss => some (.bool (Op.bytesLess a b))
  | .leq => some (.bool (Op.bytesLess a b || a == b))
  | .gtr => some (.bool (!Op.bytesLess a b && !(a == b)))
  | .geq => some (.bool !(Op.bytesLess a b))
  | _ => none

theorem mk_append (a b : List UInt8) : (ByteArray.mk a.toArray) ++ (ByteArray.mk b.toArray) = ByteArray.mk (a ++ b).toArray := by
  apply ByteArray.ext
  simp

theorem op_bin_str {op : BinOp} {T U : TypeId} {x y : Operand} {m n : List UInt8} {r : DV} (hx : ev s x = .d (.str m)) (hy : ev s y = .d (.str n)) (hr : binS op m n = some r)
    (hK : K (.d r) s) : OpOK P E s (.binOp op T x y U) ty K :=
  op_pure _ _ hK fun a w I τ ρ h h2 => by
    have hv := ev_rep h2 x
    rw [hx] at hv
    have h3 := (rep_str hv).1
    have hw := ev_rep h2 y
    rw [hy] at hw
    have h4 := (rep_str hw).1
    have hsz : ∀ l : List UInt8, (ByteArray.mk l.toArray).size = l.length := fun l => by show l.toArray.size = _; simp
    cases op <;> simp only [binS, Option.some.injEq, reduceCtorEq] at hr
    case add =>
      split at hr
      · rename_i hb
        cases hr
        refine ⟨.string ⟨(m ++ n).toArray⟩, fun _ _ _ _ => ?_, .d _ _ (.str _ (by simpa using hb))⟩
        have : ¬ ((9223372036854775807 : Int) < (m.length : Int) + (n.length : Int)) := by omega
        simp [execOp, h3, h4, eqGuard_add, binOp, Op.stringOp, hsz, this, mk_append]
      · cases hr
    all_goals
      subst hr
      refine ⟨_, fun _ _ _ _ => by simp [execOp, h3, h4, eqGuard_at_string, binOp, Op.stringOp]; rfl, .d _ _ (by constructor)⟩

theorem op_bin_bool (TT : Tab P) {op : BinOp} {T U : TypeId} {x y : Operand} {m n : Bool} (hx : ev s x = .d (.bool m)) (hy : ev s y = .d (.bool n)) (ht : (TT.T T).t = .bool)
    (hop : op = .eql ∨ op = .neq)
    (hK : K (.d (.bool (if op = .eql then m == n else m != n))) s) : OpOK P E s (.binOp op T x y U) ty K :=
  op_pure _ _ hK fun a w I τ ρ h h2 => by
    have hv := ev_rep h2 x
    rw [hx] at hv
    have h3 := rep_bool hv
    have hw := ev_rep h2 y
    rw [hy] at hw
    have h4 := rep_bool hw
    have hd := (TT.ok T).desc
    simp only [ht] at hd
    refine ⟨_, fun _ _ _ _ => ?_, .d _ _ (.bool _)⟩
    rcases hop with rfl | rfl <;> simp [execOp, h3, h4, eqGuard_at_bool, binOp, Op.equal, Op.maxDepth, run_equalIn_bool' w 9999 T m n hd, bne]

theorem op_not {T : TypeId} {x : Operand} {m : Bool} (hx : ev s x = .d (.bool m)) (hK : K (.d (.bool (!m))) s) : OpOK P E s (.unOp .not T x) ty K :=
  op_pure _ _ hK fun a w I τ ρ h h2 => by
    have hv := ev_rep h2 x
    rw [hx] at hv
    have h3 := rep_bool hv
    exact ⟨_, fun _ _ _ _ => by simp [execOp, h3, Op.unary], .d _ _ (.bool _)⟩

theorem op_neg {T : TypeId} {x : Operand} {k : IntKind} {m : Int} (hx : ev s x = .d (.int k m)) (hK : K (.d (.int k (k.wrap (0 - m)))) s) : OpOK P E s (.unOp .neg T x) ty K :=
  op_pure _ _ hK fun a w I τ ρ h h2 => by
    have hv := ev_rep h2 x
    rw [hx] at hv
    have h3 := rep_int hv
    exact ⟨_, fun _ _ _ _ => by simp [execOp, h3, Op.unary, Op.intArith], .d _ _ (.int _ _)⟩

theorem underlying_some {TT : Tab P} {T : Nat} (hk : (TT.T T).t.known = true) : ∃ d, P.underlying T = some d := by
  have hd := (TT.ok T).desc
  cases ht : (TT.T T).t <;> simp only [ht] at hd <;> first
    | exact ⟨_, hd⟩
    | (obtain ⟨F, hd, _⟩ := hd; exact ⟨_, hd⟩)
    | (obtain ⟨F, hd⟩ := hd; exact ⟨_, hd⟩)
    | (obtain ⟨a, b, c, hd⟩ := hd; exact ⟨_, hd⟩)
    | simp [ht, Ty.known] at hk

theorem op_convert_int (TT : Tab P) {T U : TypeId} {x : Operand} {k k' : IntKind} {m : Int} (hx : ev s x = .d (.int k m)) (hk : (TT.T T).t.known = true) (hu : (TT.T U).t = .int k')
    (hK : K (.d (.int k' (k'.wrap m))) s) : OpOK P E s (.convert T U x) ty K :=
  op_pure _ _ hK fun a w I τ ρ h h2 => by
    have hv := ev_rep h2 x
    rw [hx] at hv
    have h3 := rep_int hv
    obtain ⟨d, hd⟩ := underlying_some hk
    have hd' := (TT.ok U).desc
    simp only [hu] at hd'
    exact ⟨_, fun _ _ _ _ => by simp [execOp, h3, convert, run_underlying hd, run_underlying hd', Conv.intToInt], .d _ _ (.int _ _)⟩

end
end Go.AL

namespace Go.AL
open Go
set_option linter.unusedSectionVars false
variable [Inhabited Glob]
set_option linter.unusedSimpArgs false

section
variable {P : Program} {E : Ent} {s : AS} {ty : TypeId} {K : AV → AS → Prop}

/-! ### Cuts of strings and slices -/

/-- A bound that is written, or the one that is meant. -/
def bnd (s : AS) (x : Option Operand) (dflt : Int) : Option Int :=
  match x with
  | none => some dflt
  | some x => match ev s x with
    | .d (.int _ n) => some n
    | _ => none

theorem bnd_ok {I : IH} {τ : TH} {ρ : Nat → Nat} {a : Act} (h2 : ∀ t, RepA I τ ρ s.objs.length (getE s.env t) (a.tmps.getD t undef)) {x : Option Operand} {d n : Int} (h : bnd s x d = some n) :
    (x = none ∧ n = d) ∨ ∃ y k, x = some y ∧ a.eval y = .int k n := by
  unfold bnd at h
  cases x with
  | none => exact .inl ⟨rfl, by simpa using h.symm⟩
  | some y =>
    right
    simp only at h
    split at h
    · rename_i k m he
      cases h
      have hv := ev_rep h2 y
      rw [he] at hv
      exact ⟨y, k, rfl, rep_int hv⟩
    · cases h

theorem op_slice_str (TT : Tab P) {T : TypeId} {x : Operand} {lo hi : Option Operand} {l : List UInt8} {i j : Int} (hx : ev s x = .d (.str l)) (ht : (TT.T T).t = .str)
    (hi' : bnd s lo 0 = some i) (hj' : bnd s hi l.length = some j) (h0 : 0 ≤ i) (h1 : i ≤ j) (h2' : j ≤ l.length)
    (hK : K (.d (.str ((l.drop i.toNat).take (j.toNat - i.toNat)))) s) : OpOK P E s (.slice T x lo hi none) ty K :=
  op_pure _ _ hK fun a w I τ ρ h h2 => by
    have hv := ev_rep h2 x
    rw [hx] at hv
    obtain ⟨h3, hl⟩ := rep_str hv
    have hd := (TT.ok T).desc
    simp only [ht] at hd
    have hsz : (ByteArray.mk l.toArray).size = l.length := by show l.toArray.size = _; simp
    refine ⟨.string ⟨((l.drop i.toNat).take (j.toNat - i.toNat)).toArray⟩, fun _ _ _ _ => ?_, .d _ _ (.str _ (by simp; omega))⟩
    have e := ByteArray.extract_mk l i.toNat j.toNat
    have hj0 : 0 ≤ j := by omega
    have ej : (j.toNat : Int) = j := by omega
    rcases bnd_ok h2 hi' with ⟨rfl, rfl⟩ | ⟨y, k, rfl, he⟩ <;> rcases bnd_ok h2 hj' with ⟨rfl, rfl⟩ | ⟨z, k', rfl, he'⟩ <;>
      simp_all [execOp, Instr.sliceAt, run_underlying hd, Instr.slice, Instr.sliceBounds, run_sliceBound, hsz]

theorem op_slice_sl (TT : Tab P) {T e : TypeId} {x : Operand} {lo hi : Option Operand} {sz : Nat} {xs : List (List DV)} {own : Own} {i j : Int} (hx : ev s x = .d (.sl sz xs own)) (ht : (TT.T T).t = .slice e)
    (hke : (TT.T e).t.known = true) (hsz : (TT.T e).size = sz)
    (hi' : bnd s lo 0 = some i) (hj' : bnd s hi xs.length = some j) (h0 : 0 ≤ i) (h1 : i ≤ j) (h2' : j ≤ xs.length)
    (hK : K (.d (.sl sz ((xs.drop i.toNat).take (j.toNat - i.toNat)) .no)) s) : OpOK P E s (.slice T x lo hi none) ty K :=
  op_pure _ _ hK fun a w I τ ρ h h2 => by
    have hv := ev_rep h2 x
    rw [hx] at hv
    have hv' := rep_sl hv
    have hd := (TT.ok T).desc
    simp only [ht] at hd
    generalize hyy : a.eval x = vx at *
    cases hv' with
    | sl _ _ _ adr cap vals hs hcap hmax hnil hadr hI hrep hown =>
      refine ⟨.slice (if cap = i.toNat then adr else adr.map (·.add (i.toNat * sz))) (j.toNat - i.toNat) (cap - i.toNat), fun _ _ _ _ => ?_, ?_⟩
      · have hj0 : 0 ≤ j := by omega
        have ej : (j.toNat : Int) = j := by omega
        have hjc : j ≤ cap := by omega
        rcases bnd_ok h2 hi' with ⟨rfl, rfl⟩ | ⟨y, k, rfl, he⟩ <;> rcases bnd_ok h2 hj' with ⟨rfl, rfl⟩ | ⟨z, k', rfl, he'⟩ <;>
          simp_all [execOp, Instr.sliceAt, run_underlying hd, Instr.slice, Instr.sliceBounds, run_sliceBound, run_sizeOf_of w (TT.ok e) hke]
      · have hlen : ((xs.drop i.toNat).take (j.toNat - i.toNat)).length = j.toNat - i.toNat := by simp; omega
        have hget : ∀ (a : Nat) y, ((xs.drop i.toNat).take (j.toNat - i.toNat))[a]? = some y → xs[i.toNat + a]? = some y := by
          intro a y hy
          rw [List.getElem?_take] at hy
          split at hy
          · rwa [List.getElem?_drop] at hy
          · cases hy
        have key := RepD.sl (I := I) (τ := τ) sz ((xs.drop i.toNat).take (j.toNat - i.toNat)) .no (if cap = i.toNat then adr else adr.map (·.add (i.toNat * sz))) (cap - i.toNat) (fun k => vals (i.toNat * sz + k))
          (fun y hy => by obtain ⟨a, ha⟩ := List.getElem?_of_mem hy; exact hs _ (List.mem_of_getElem? (hget a y ha)))
          (by rw [hlen]; omega) (by omega) ?_ ?_ ?_ ?_ trivial
        · rw [hlen] at key; exact .d _ _ key
        · intro hn
          split at hn
          · omega
          · cases adr with
            | none => have := hnil rfl; omega
            | some adr => simp at hn
        · intro hc0 adr' ha
          split at ha
          · exact hadr (by omega) adr' ha
          · cases adr with
            | none => simp at ha
            | some adr =>
              simp only [Option.map_some, Option.some.injEq] at ha
              subst ha
              rw [Addr.add_eq adr (hadr (by omega) adr rfl)]
        · intro adr' ha a y b c hy hc
          have hy' := hget a y hy
          split at ha
          · rename_i hcap'
            have : a < ((xs.drop i.toNat).take (j.toNat - i.toNat)).length := (List.getElem?_eq_some_iff.1 hy).1
            omega
          · cases adr with
            | none => simp at ha
            | some adr =>
              simp only [Option.map_some, Option.some.injEq] at ha
              subst ha
              rw [Addr.add_eq adr (hadr (by have := (List.getElem?_eq_some_iff.1 hy').1; omega) adr rfl)]
              have := hI adr rfl _ _ _ _ hy' hc
              rw [Nat.add_mul] at this
              simpa [Nat.add_assoc] using this
        · intro a y b c hy hc
          have := hrep _ _ _ _ (hget a y hy) hc
          rw [Nat.add_mul] at this
          simpa [Nat.add_assoc] using this

/-! ### Bytes to a string -/

def byteI : List DV → Option Int
  | [.int .u8 n] => some n
  | _ => none

def bytesI : List (List DV) → Option (List Int)
  | [] => some []
  | x :: xs => match byteI x, bytesI xs with
    | some n, some ns => some (n :: ns)
    | _, _ => none

theorem byteI_some {x : List DV} {n : Int} (h : byteI x = some n) : x = [.int .u8 n] := by
  unfold byteI at h
  split at h
  · cases h; rfl
  · cases h

theorem bytesI_some : ∀ {xs : List (List DV)} {ns : List Int}, bytesI xs = some ns → xs = ns.map fun n => [.int .u8 n]
  | [], ns, h => by simp only [bytesI, Option.some.injEq] at h; subst h; rfl
  | x :: xs, ns, h => by
    simp only [bytesI] at h
    split at h
    · rename_i n ns' h1 h2
      cases h
      rw [byteI_some h1, bytesI_some h2]
      rfl
    · cases h

theorem foldl_push (ns : List Int) : ∀ (acc : List UInt8), ns.foldl (fun (r : ByteArray) n => r.push (UInt8.ofNat n.toNat)) (ByteArray.mk acc.toArray) = ByteArray.mk (acc ++ ns.map fun n => UInt8.ofNat n.toNat).toArray := by
  induction ns with
  | nil => intro acc; simp
  | cons n ns ih =>
    intro acc
    have e : (ByteArray.mk acc.toArray).push (UInt8.ofNat n.toNat) = ByteArray.mk (acc ++ [UInt8.ofNat n.toNat]).toArray := by
      apply ByteArray.ext
      simp [ByteArray.push]
    simp only [List.foldl_cons, e]
    rw [ih]
    simp

theorem op_convert_bytes (TT : Tab P) {T U e : TypeId} {x : Operand} {xs : List (List DV)} {own : Own} {ns : List Int} (hx : ev s x = .d (.sl 1 xs own)) (ht : (TT.T T).t = .slice e) (he : (TT.T e).t = .int .u8) (hu : (TT.T U).t = .str)
    (hb : bytesI xs = some ns)
    (hK : K (.d (.str (ns.map fun n => UInt8.ofNat n.toNat))) s) : OpOK P E s (.convert T U x) ty K :=
  op_pure _ _ hK fun a w I τ ρ h h2 => by
    have hv := ev_rep h2 x
    rw [hx] at hv
    have hv' := rep_sl hv
    have hd := (TT.ok T).desc
    simp only [ht] at hd
    have hde := (TT.ok e).desc
    simp only [he] at hde
    have hdu := (TT.ok U).desc
    simp only [hu] at hdu
    have hxs := bytesI_some hb
    subst hxs
    generalize hyy : a.eval x = vx at *
    cases hv' with
    | sl _ _ _ adr cap vals hs hcap hmax hnil hadr hI hrep hown =>
      simp only [List.length_map] at hcap
      refine ⟨.string ⟨(ns.map fun n => UInt8.ofNat n.toNat).toArray⟩, fun _ _ _ _ => ?_, .d _ _ (.str _ (by simp; omega))⟩
      simp only [execOp, hyy, List.length_map]
      cases adr with
      | none =>
        have h0 := hnil rfl
        have hx0 : ns = [] := List.eq_nil_of_length_eq_zero (by omega)
        subst hx0
        simp only [Sem.run_bind, run_convert_bytes_string w T U e none _ cap hd hde hdu]
        simp [Conv.bytesToString]
        rfl
      | some adr =>
        have hvals : ∀ (j : Nat) n, ns[j]? = some n → w.cell? (adr.add j) = some (.int .u8 n) := by
          intro j n hn
          have h1 := hI adr rfl j [.int .u8 n] 0 (.int .u8 n) (by simp [hn]) rfl
          have h2 := hrep j [.int .u8 n] 0 (.int .u8 n) (by simp [hn]) rfl
          generalize vals (j * 1 + 0) = vv at h1 h2
          cases h2
          rw [Addr.add_eq adr (hadr (by have := (List.getElem?_eq_some_iff.1 hn).1; omega) adr rfl)]
          exact h.iok _ _ _ (by simpa using h1)
        have hld := run_loadCells_list (P := P) w adr (ns.map (Value.int .u8)) (fun j v hv => by
          simp only [List.getElem?_map, Option.map_eq_some_iff] at hv
          obtain ⟨n, hn, rfl⟩ := hv
          exact hvals j n hn)
        simp only [List.length_map] at hld
        have hrun := run_bytesToString (P := P) w adr ns.length cap ns hld
        simp only [Sem.run_bind, run_convert_bytes_string w T U e (some adr) _ cap hd hde hdu, hrun, Result.andThen_ok, Sem.run_pure]
        have := foldl_push ns []
        simp only [List.nil_append] at this
        have e0 : (ByteArray.mk (List.toArray ([] : List UInt8))) = ByteArray.empty := rfl
        rw [e0] at this
        rw [this]

/-! ### Functions, tuples, maps -/

theorem op_makeFunc {f : Nat} {captured : Array Operand} {caps : List Nat} (hc : captured.toList.map (ev s) = caps.map fun o => AV.ptr o 0)
    (hK : K (.fn f caps) s) : OpOK P E s (.makeFunc (.func f) #[] captured) ty K :=
  op_pure _ _ hK fun a w I τ ρ h h2 => by
    have key : ∀ (l : List Operand) (caps : List Nat), l.map (ev s) = (caps.map fun o => AV.ptr o 0) → (l.map a.eval) = (caps.map fun o => Value.pointer (some ⟨ρ o, 0, none⟩)) ∧ ∀ o ∈ caps, o < s.objs.length := by
      intro l
      induction l with
      | nil => intro caps hc; cases caps with
        | nil => simp
        | cons o caps => simp at hc
      | cons x l ih => intro caps hc; cases caps with
        | nil => simp at hc
        | cons o caps =>
          simp only [List.map_cons, List.cons.injEq] at hc
          obtain ⟨g1, g2⟩ := ih caps hc.2
          have hv := ev_rep h2 x
          rw [hc.1] at hv
          obtain ⟨g3, g4⟩ := rep_ptr hv
          refine ⟨by simp [g1, g3], fun o' ho' => ?_⟩
          simp only [List.mem_cons] at ho'
          rcases ho' with rfl | ho'
          · exact g4
          · exact g2 o' ho'
    obtain ⟨g1, g2⟩ := key captured.toList caps hc
    refine ⟨.func (.func f) #[] (caps.map fun o => Value.pointer (some ⟨ρ o, 0, none⟩)).toArray, fun _ _ _ _ => ?_, .fn f caps g2⟩
    have : captured.map a.eval = (caps.map fun o => Value.pointer (some ⟨ρ o, 0, none⟩)).toArray := by
      apply Array.ext'
      simpa using g1
    simp [execOp, Instr.makeFunc, this]

theorem op_extract {x : Operand} {vs : List AV} {i : Nat} {v : AV} (hx : ev s x = .tup vs) (hi : vs[i]? = some v) (hK : K v s) : OpOK P E s (.extract x i) ty K :=
  op_pure _ _ hK fun a w I τ ρ h h2 => by
    have hv := ev_rep h2 x
    rw [hx] at hv
    generalize hyy : a.eval x = vx at *
    cases hv with
    | tup _ ws hl hr =>
      have hlt : i < ws.length := by rw [← hl]; exact (List.getElem?_eq_some_iff.1 hi).1
      have hw := List.getElem?_eq_getElem hlt
      refine ⟨ws[i], fun _ _ _ _ => ?_, hr i _ _ hi hw⟩
      simp [execOp, hyy, Instr.extract, hlt]

theorem op_makeMap {T : TypeId} (hK : K (.map s.objs.length) { s with objs := s.objs ++ [.map []] }) : OpOK P E s (.makeMap T none) ty K := by
  intro a w hs
  obtain ⟨I, τ, ρ, h1, h2⟩ := hs.ex
  obtain ⟨g1, g2⟩ := h1.allocObj (.map #[] 0) (.map []) ⟨[], 0, rfl, rfl, fun i e m he => by simp at he⟩
  refine .inl ⟨.map (some w.heap.size), w.alloc (.map #[] 0), fun _ _ _ _ => by simp [execOp, Instr.makeMap], _, _, hK, rfl, I, τ, _, g1, fun t => (h2 t).mono g2, ?_⟩
  have := RepA.map (I := I) (τ := τ) (ρ := upd ρ s.objs.length w.heap.size) (n := (s.objs ++ [AO.map []]).length) s.objs.length (by simp)
  simpa [upd] using this

/-- Keys that are texts, or integers of one kind. -/
def keyB : DV → DV → Option Bool
  | .str a, .str b => some (a == b)
  | .int k a, .int k' b => if k = k' then some (a == b) else none
  | _, _ => none

def findE (key : DV) : List (DV × DV) → Option (Option DV)
  | [] => some none
  | e :: es => match keyB key e.1 with
    | some true => some (some e.2)
    | some false => findE key es
    | none => none

def keyDesc : DV → Ty → Bool
  | .str _, .str => true
  | .int k _, .int k' => k == k'
  | _, _ => false

def FoundR (I : IH) (τ : TH) (r : Option DV) (q : Option (Nat × Value)) : Prop :=
  match r with
  | none => q = none
  | some d => ∃ j v, q = some (j, v) ∧ RepD I τ d v

theorem findNow_ok {I : IH} {τ : TH} {kd : TypeDesc} {key : DV} {kv : Value} {kt : Ty} (hk : RepD I τ key kv) (hkt : keyDesc key kt = true)
    (hkd : (∀ k, kt = .int k → kd = .int k) ∧ (kt = .str → kd = .string)) : ∀ (es : List (DV × DV)) (ms : List MapEntry) (i : Nat) (r : Option DV), RepM I τ es ms → findE key es = some r →
    ∃ q, Instr.findNow kd kv ms i = some q ∧ FoundR I τ r q := by
  intro es
  induction es with
  | nil =>
    intro ms i r hm hf
    have : ms = [] := List.eq_nil_of_length_eq_zero (by simpa using hm.1.symm)
    subst this
    simp only [findE, Option.some.injEq] at hf
    subst hf
    exact ⟨none, rfl, rfl⟩
  | cons e es ih =>
    intro ms i r hm hf
    cases ms with
    | nil => have := hm.1; simp at this
    | cons m ms =>
      obtain ⟨h1, h2⟩ := hm.2 0 e m rfl rfl
      have hm' : RepM I τ es ms := ⟨by have := hm.1; simpa using this, fun i e m he hm' => hm.2 (i + 1) e m (by simpa using he) (by simpa using hm')⟩
      simp only [findE] at hf
      have hs : ∀ b, keyB key e.1 = some b → Instr.sameNow kd kv m.key = some b := by
        intro b hb
        generalize he1 : e.1 = e1 at *
        generalize hmk : m.key = mk at *
        cases hk with
        | str a _ =>
          cases h1 with
          | str b' _ =>
            simp only [keyB, Option.some.injEq] at hb
            have : kd = .string := hkd.2 (by cases kt <;> simp [keyDesc] at hkt; rfl)
            subst this
            simp only [Instr.sameNow, Option.some.injEq]
            rw [← hb, beq_toListBytes]
            simp
          | _ => simp [keyB] at hb
        | int k n =>
          cases h1 with
          | int k' n' =>
            simp only [keyB] at hb
            split at hb
            · rename_i hkk
              subst hkk
              have : kd = .int k := hkd.1 k (by cases kt <;> simp [keyDesc] at hkt; rw [hkt])
              subst this
              simp only [Option.some.injEq] at hb
              simp [Instr.sameNow, hb]
            · cases hb
          | _ => simp [keyB] at hb
        | _ => simp [keyDesc] at hkt
      cases hkb : keyB key e.1 with
      | none => simp [hkb] at hf
      | some b =>
        cases b with
        | true =>
          simp only [hkb, Option.some.injEq] at hf
          subst hf
          refine ⟨some (i, m.val), by simp [Instr.findNow, hs true hkb], i, m.val, rfl, h2⟩
        | false =>
          simp only [hkb] at hf
          obtain ⟨q, hq, hr⟩ := ih ms (i + 1) r hm' hf
          exact ⟨q, by simp [Instr.findNow, hs false hkb, hq], hr⟩

theorem rep_map {I : IH} {τ : TH} {ρ : Nat → Nat} {n o : Nat} {x : Value} (h : RepA I τ ρ n (.map o) x) : x = .map (some (ρ o)) ∧ o < n := by
  cases h with
  | map _ h => exact ⟨rfl, h⟩

theorem checkKey_plain {kt : Nat} (kd : TypeDesc) (kv : Value) (hkd : kd = .string ∨ ∃ k, kd = .int k) (hd : P.underlying kt = some kd) (em : Bool) (w : World) : (Instr.checkKey em 10000 kt kv).run P w = .ok () w := by
  have key : ∀ n, (Instr.checkKey em (n + 1) kt kv).run P w = .ok () w := by
    intro n
    rcases hkd with rfl | ⟨k, rfl⟩ <;> simp [Instr.checkKey, run_underlying hd]
  exact key 9999

theorem key_of {I : IH} {τ : TH} {TT : Tab P} {kt : Nat} {key : DV} {kv : Value} (hk : RepD I τ key kv) (hkt : keyDesc key (TT.T kt).t = true) (w : World) :
    ∃ kd, P.underlying kt = some kd ∧ ((∀ k, (TT.T kt).t = .int k → kd = .int k) ∧ ((TT.T kt).t = .str → kd = .string)) ∧ ∀ em, (Instr.checkKey em 10000 kt kv).run P w = .ok () w := by
  have hd := (TT.ok kt).desc
  cases hk with
  | str a _ =>
    cases ht : (TT.T kt).t <;> simp [ht, keyDesc] at hkt
    simp only [ht] at hd
    exact ⟨.string, hd, ⟨fun k e => by simp at e, fun _ => rfl⟩, fun em => checkKey_plain _ _ (.inl rfl) hd em w⟩
  | int k n =>
    cases ht : (TT.T kt).t <;> simp [ht, keyDesc] at hkt
    simp only [ht] at hd
    exact ⟨_, hd, ⟨fun k' e => by simp at e; rw [e], fun e => by simp at e⟩, fun em => checkKey_plain _ _ (.inr ⟨_, rfl⟩) hd em w⟩
  | _ => simp [keyDesc] at hkt

theorem run_findKey_of {I : IH} {τ : TH} {TT : Tab P} {kt : Nat} {key : DV} {kv : Value} (hk : RepD I τ key kv) (hkt : keyDesc key (TT.T kt).t = true) {es : List (DV × DV)} {ms : List MapEntry} {r : Option DV}
    (hm : RepM I τ es ms) (hf : findE key es = some r) (w : World) :
    ∃ q, (Instr.findKey kt kv ms).run P w = .ok q w ∧ FoundR I τ r q := by
  obtain ⟨kd, h1, h2, _⟩ := key_of (TT := TT) hk hkt w
  obtain ⟨q, hq, hr⟩ := findNow_ok hk hkt h2 es ms 0 r hm hf
  exact ⟨q, by simp [Instr.findKey, run_underlying h1, hq], hr⟩

theorem op_lookup (TT : Tab P) {T kt et : TypeId} {x y : Operand} {ok : Bool} {o : Nat} {es : List (DV × DV)} {key : DV} {z : DV} {r : Option DV} (hx : ev s x = .map o) (ho : s.objs[o]? = some (.map es)) (hy : ev s y = .d key)
    (ht : (TT.T T).t = .map kt et) (hkt : keyDesc key (TT.T kt).t = true) (hz : (TT.T et).zero = some [z]) (hea : (TT.T et).t.agg = false) (hek : (TT.T et).t.known = true)
    (hf : findE key es = some r) (hK : K (if ok then .tup [.d (r.getD z), .d (.bool r.isSome)] else .d (r.getD z)) s) : OpOK P E s (.lookup T x y ok) ty K :=
  op_pure _ _ hK fun a w I τ ρ h h2 => by
    have hv := ev_rep h2 x
    rw [hx] at hv
    have hp := (rep_map hv).1
    have hkv := ev_rep h2 y
    rw [hy] at hkv
    have hkd : RepD I τ key (a.eval y) := by cases hkv with | d _ _ h => exact h
    obtain ⟨ms, clock, hb, hm⟩ := h.obj o _ ho
    have hd := (TT.ok T).desc
    simp only [ht] at hd
    obtain ⟨kd, k1, k2, k3⟩ := key_of (TT := TT) hkd hkt w
    obtain ⟨q, hq, hr⟩ := run_findKey_of (TT := TT) hkd hkt hm hf w
    obtain ⟨g1, g2, g3, g4⟩ := zeroValue_run (TT.ok et) (by intro e; rw [e] at hek; cases hek) hz w
    simp only [hea, Bool.false_eq_true, if_false, List.map_cons, List.map_nil, List.headD_cons] at g1
    simp only [List.all_cons, List.all_nil, Bool.and_true] at g2
    have hget : (getObj (ρ o)).run P w = .ok (.map ms.toArray clock) w := by simp [getObj, Sem.run, hb]
    have mk : ∀ (d : DV) (v : Value) (b : Bool), RepD I τ d v → RepA I τ ρ s.objs.length (if ok then .tup [.d d, .d (.bool b)] else .d d) (if ok then .tuple #[v, .bool b] else v) := by
      intro d v b hdv
      cases ok with
      | false => exact .d _ _ hdv
      | true =>
        refine .tup [.d d, .d (.bool b)] [v, .bool b] rfl fun i p q hp hq => ?_
        match i with
        | 0 => simp at hp hq; subst hp; subst hq; exact .d _ _ hdv
        | 1 => simp at hp hq; subst hp; subst hq; exact .d _ _ (.bool b)
        | i + 2 => simp at hp
    cases r with
    | none =>
      simp only [FoundR] at hr
      subst hr
      refine ⟨_, fun _ _ _ _ => ?_, mk z z.zv false (RepD.zero g2)⟩
      simp [execOp, Instr.lookup, run_underlying hd, hp, hget, k3, hq, g1]
    | some d =>
      obtain ⟨j, v, rfl, hdv⟩ := hr
      refine ⟨_, fun _ _ _ _ => ?_, mk d v true hdv⟩
      simp [execOp, Instr.lookup, run_underlying hd, hp, hget, k3, hq]

/-- A store of a key that is not there. -/
theorem op_mapUpdate (TT : Tab P) {T kt et : TypeId} {x y z : Operand} {o : Nat} {es : List (DV × DV)} {key val : DV} (hx : ev s x = .map o) (ho : s.objs[o]? = some (.map es)) (hy : ev s y = .d key) (hz : ev s z = .d val)
    (ht : (TT.T T).t = .map kt et) (hkt : keyDesc key (TT.T kt).t = true)
    (hf : findE key es = some none) (hK : K .unk { s with objs := s.objs.set o (.map (es ++ [(key, val)])) }) : OpOK P E s (.mapUpdate T x y z) ty K := by
  intro a w hs
  obtain ⟨I, τ, ρ, h, h2⟩ := hs.ex
  have hv := ev_rep h2 x
  rw [hx] at hv
  obtain ⟨hp, hlt⟩ := rep_map hv
  have hkv := ev_rep h2 y
  rw [hy] at hkv
  have hkd : RepD I τ key (a.eval y) := by cases hkv with | d _ _ h => exact h
  have hvv := ev_rep h2 z
  rw [hz] at hvv
  have hvd : RepD I τ val (a.eval z) := by cases hvv with | d _ _ h => exact h
  obtain ⟨ms, clock, hb, hm⟩ := h.obj o _ ho
  have hd := (TT.ok T).desc
  simp only [ht] at hd
  obtain ⟨kd, k1, k2, k3⟩ := key_of (TT := TT) hkd hkt w
  obtain ⟨q, hq, hr⟩ := run_findKey_of (TT := TT) hkd hkt hm hf w
  simp only [FoundR] at hr
  subst hr
  have hget : (getObj (ρ o)).run P w = .ok (.map ms.toArray clock) w := by simp [getObj, Sem.run, hb]
  have hset : ∀ ob, (setObj (ρ o) ob).run P w = .ok () { w with heap := w.heap.setIfInBounds (ρ o) ob } := by intro ob; simp [setObj, Sem.run, hb]
  have hbl := (h.objI o hlt).1
  refine .inr (.inl ⟨{ w with heap := w.heap.setIfInBounds (ρ o) (.map (ms.toArray.push { key := a.eval y, val := a.eval z, born := clock }) (clock + 1)) }, fun _ _ _ _ => ?_, _, _, hK, rfl, I, τ, ρ, h.setObj o hlt _ _ ?_ ?_ ?_ rfl rfl rfl, fun t => ?_, .unk _⟩)
  · simp [execOp, Instr.mapUpdate, run_underlying hd, hp, hget, k3, hq, hset]
  · simp
  · intro b hb'
    simp [Array.getElem?_setIfInBounds_ne (fun e => hb' e.symm)]
  · refine ⟨ms ++ [{ key := a.eval y, val := a.eval z, born := clock }], clock + 1, by simp [hbl], by simp [hm.1], fun i e m he hm' => ?_⟩
    by_cases hi : i < es.length
    · rw [List.getElem?_append_left hi] at he
      rw [List.getElem?_append_left (by rw [← hm.1]; exact hi)] at hm'
      exact hm.2 i e m he hm'
    · rw [List.getElem?_append_right (by omega)] at he
      rw [List.getElem?_append_right (by rw [← hm.1]; omega), ← hm.1] at hm'
      match hj : i - es.length with
      | 0 =>
        rw [hj] at he hm'
        simp at he hm'
        subst he; subst hm'
        exact ⟨hkd, hvd⟩
      | j + 1 => rw [hj] at he; simp at he
  · exact (h2 t).mono ⟨Ext.refl I τ, by simp, fun _ _ => rfl⟩

end
end Go.AL
