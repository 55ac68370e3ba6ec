/- Walks of functions of the cut by the abstract logic, and what they compute. Filled by a program of mine from a template. -/
import Derived.Test.YtfgalmgldidcmaaGreatW2
import Derived.Test.YtfgalmgldidcmaaGreatV1
namespace Go.Proofs.YtfgalmgldidcmaaGreat
open Go Go.AL
set_option linter.unusedSimpArgs false
set_option linter.unusedVariables false

/-- What an expression is: kind, number, fault. -/
structure Ev where
  k : Int
  n : Int
  f : Int
deriving DecidableEq
def b2i (b : Bool) : Int := if b then 1 else 0
def evT (b : Bool) : Ev := ⟨1, b2i b, 0⟩
def evF (f : Int) : Ev := ⟨0, 0, f⟩
def evO (o : Option (Int × Int)) : Ev := match o with
  | some v => ⟨v.1, v.2, 0⟩
  | none => evF 2
def flds (w : List Thing) (n : Int) : List Field := (w.getD n.toNat ⟨[], []⟩).fields
/-- A value that must be of a kind. -/
def kindV (kd : Int) (v : Ev) : Ev := if v.f = 0 ∧ v.k ≠ kd then evF 1 else v
def evNode (w : List Thing) (r : Request) (k n : Int) (nm : List UInt8) (a b : Ev) : Ev :=
  if k = 1 then ⟨1, n, 0⟩ else if k = 2 then ⟨2, n, 0⟩
  else if k = 3 then (if inB n 0 ((w.length : Int) - 1) then ⟨3, n, 0⟩ else evF 3)
  else if k = 4 then ⟨3, r.who, 0⟩ else if k = 5 then ⟨3, r.what, 0⟩ else if k = 6 then ⟨2, r.act, 0⟩
  else if k = 7 then evO (fieldO r.fields nm)
  else if k = 8 then (if (kindV 3 a).f ≠ 0 then evF (kindV 3 a).f else evO (fieldO (flds w (kindV 3 a).n) nm))
  else if k = 9 then (if (kindV 3 a).f ≠ 0 then evF (kindV 3 a).f else evT (fieldO (flds w (kindV 3 a).n) nm).isSome)
  else if k = 13 then (if (kindV 1 a).f ≠ 0 then evF (kindV 1 a).f else evT ((kindV 1 a).n == 0))
  else if k = 14 then (if (kindV 1 a).f ≠ 0 then evF (kindV 1 a).f else if (kindV 1 a).n = 0 then kindV 1 a else kindV 1 b)
  else if k = 15 then (if (kindV 1 a).f ≠ 0 then evF (kindV 1 a).f else if (kindV 1 a).n = 1 then kindV 1 a else kindV 1 b)
  else if a.f ≠ 0 then evF a.f else if b.f ≠ 0 then evF b.f
  else if k = 10 then (if a.k = b.k then evT (a.n == b.n) else evF 1)
  else if k = 11 then (if a.k = 2 ∧ b.k = 2 then evT (decide (a.n < b.n)) else evF 1)
  else if k = 12 then (if a.k = 3 ∧ b.k = 3 then evT (inW w b.n w.length a.n) else evF 1)
  else evF 1
mutual
def evE (w : List Thing) (r : Request) : Expr → Ev
  | .mk k n nm ps => evNode w r k n nm ((evEs w r ps).getD 0 (evF 0)) ((evEs w r ps).getD 1 (evF 0))
def evEs (w : List Thing) (r : Request) : List Expr → List Ev
  | [] => []
  | e :: es => evE w r e :: evEs w r es
end
theorem evE_0 (w : List Thing) (r : Request) (k n : Int) (nm : List UInt8) : evE w r (.mk k n nm []) = evNode w r k n nm (evF 0) (evF 0) := by simp [evE, evEs]
theorem evE_1 (w : List Thing) (r : Request) (k n : Int) (nm : List UInt8) (a : Expr) : evE w r (.mk k n nm [a]) = evNode w r k n nm (evE w r a) (evF 0) := by simp [evE, evEs]
theorem evE_2 (w : List Thing) (r : Request) (k n : Int) (nm : List UInt8) (a b : Expr) : evE w r (.mk k n nm [a, b]) = evNode w r k n nm (evE w r a) (evE w r b) := by simp [evE, evEs]

/-- What a value must be. -/
def evOK (w : List Thing) (v : Ev) : Prop := (v.f = 0 → valB v.k v.n w.length = true) ∧ (v.f ≠ 0 → v.k = 0 ∧ v.n = 0) ∧ 0 ≤ v.f
theorem fieldsGo_mem {many : Int} : ∀ {l pre : List Field}, fieldsGo many pre l = true → ∀ f ∈ l, nameB f.name = true ∧ valB f.kind f.number many = true
  | [], _, _, f, h => by simp at h
  | x :: l, pre, h, f, hf => by
    simp only [fieldsGo, Bool.and_eq_true] at h
    rcases List.mem_cons.1 hf with rfl | hf
    · exact ⟨h.1.1.1, h.1.2⟩
    · exact fieldsGo_mem h.2 f hf
theorem fields_mem {many : Int} {l : List Field} (h : fieldsB l many = true) : ∀ f ∈ l, nameB f.name = true ∧ valB f.kind f.number many = true := by
  simp only [fieldsB, Bool.and_eq_true] at h
  exact fieldsGo_mem h.1
theorem fieldO_mem {l : List Field} {nm : List UInt8} {v : Int × Int} (h : fieldO l nm = some v) : ∃ f ∈ l, f.name = nm ∧ v = (f.kind, f.number) := by
  induction l with
  | nil => simp [fieldO] at h
  | cons f l ih =>
    rw [fieldO] at h
    split at h
    · rename_i hn; cases h; exact ⟨f, by simp, hn, rfl⟩
    · obtain ⟨g, h1, h2⟩ := ih h; exact ⟨g, by simp [h1], h2⟩
theorem evOK_F (w : List Thing) {f : Int} (h : 0 < f) : evOK w (evF f) := ⟨fun h0 => by simp [evF] at h0; omega, fun _ => ⟨rfl, rfl⟩, by simp [evF]; omega⟩
theorem evOK_T (w : List Thing) (b : Bool) : evOK w (evT b) := ⟨fun _ => by cases b <;> simp [evT, b2i, valB, inB], fun h => absurd rfl h, Int.le_refl _⟩
theorem evOK_O {w : List Thing} {l : List Field} (h : fieldsB l w.length = true) (nm : List UInt8) : evOK w (evO (fieldO l nm)) := by
  cases ho : fieldO l nm with
  | none => exact evOK_F w (by omega)
  | some v =>
    obtain ⟨f, h1, h2, rfl⟩ := fieldO_mem ho
    exact ⟨fun _ => (fields_mem h f h1).2, fun h => absurd rfl h, Int.le_refl _⟩
theorem evOK_kind {w : List Thing} {v : Ev} (h : evOK w v) (kd : Int) : evOK w (kindV kd v) := by
  unfold kindV
  split
  · exact evOK_F w (by omega)
  · exact h
theorem kindV_k {v : Ev} {kd : Int} (h : (kindV kd v).f = 0) : (kindV kd v).k = kd ∧ kindV kd v = v := by
  unfold kindV at h ⊢
  split
  · rename_i hc; rw [if_pos hc] at h; simp [evF] at h
  · rename_i hc; rw [if_neg hc] at h; exact ⟨Decidable.byContradiction fun hk => hc ⟨h, hk⟩, rfl⟩
theorem valB_3 {n many : Int} (h : valB 3 n many = true) : 0 ≤ n ∧ n < many := by simpa [valB] using h
theorem valB_1 {n many : Int} (h : valB 1 n many = true) : n = 0 ∨ n = 1 := by
  have : 0 ≤ n ∧ n ≤ 1 := by simpa [valB, inB] using h
  omega
theorem world_flds {w : List Thing} (hw : worldB w = true) (n : Int) : fieldsB (flds w n) w.length = true := by
  unfold flds
  rw [List.getD_eq_getElem?_getD]
  cases h : w[n.toNat]? with
  | none => simp [fieldsB, fieldsGo]
  | some t => exact (world_get hw h).2
/-- A request in a valid world. -/
structure ReqOK (w : List Thing) (r : Request) : Prop where
  hw : worldB w = true
  who : 0 ≤ r.who ∧ r.who < w.length
  what : 0 ≤ r.what ∧ r.what < w.length
  act : 0 ≤ r.act ∧ r.act ≤ 3
  fs : fieldsB r.fields w.length = true
theorem reqOK_of {w : List Thing} {r : Request} (h : reqB w r = true) : ReqOK w r := by
  simp only [reqB, Bool.and_eq_true, inB_t] at h
  obtain ⟨⟨⟨⟨h1, h2⟩, h3⟩, h4⟩, h5⟩ := h
  exact ⟨h1, by omega, by omega, h4, h5⟩
theorem okI {w : List Thing} {c : Prop} [Decidable c] {a b : Ev} (h1 : c → evOK w a) (h2 : ¬c → evOK w b) : evOK w (if c then a else b) := by
  by_cases h : c
  · rw [if_pos h]; exact h1 h
  · rw [if_neg h]; exact h2 h
theorem evNode_ok {w : List Thing} {r : Request} (hr : ReqOK w r) {k n : Int} {nm : List UInt8} {l : Nat} (hn : nodeB k n nm l = true) {a b : Ev} (ha : evOK w a) (hb : evOK w b) : evOK w (evNode w r k n nm a b) := by
  have hg : 0 ≤ n ∧ n ≤ greatN k := by simp only [nodeB, Bool.and_eq_true, inB_t] at hn; exact hn.1.1.1.2
  have hk3 := evOK_kind ha 3
  have hk1 := evOK_kind ha 1
  have hb1 := evOK_kind hb 1
  have p3 := hk3.2.2
  have p1 := hk1.2.2
  have pa := ha.2.2
  have pb := hb.2.2
  have nf : ∀ {k n : Int}, valB k n w.length = true → evOK w ⟨k, n, 0⟩ := fun h => ⟨fun _ => h, fun h => absurd rfl h, Int.le_refl _⟩
  have v3 : ∀ {n : Int}, 0 ≤ n ∧ n < w.length → valB 3 n w.length = true := fun h => by
    show (if (3 : Int) = 1 then _ else if (3 : Int) = 2 then _ else if (3 : Int) = 3 then _ else _) = true
    rw [if_neg (by decide), if_neg (by decide), if_pos rfl]; simp; omega
  have v2 : ∀ {n : Int}, 0 ≤ n ∧ n ≤ 99 → valB 2 n w.length = true := fun h => (if_neg (by decide)).trans ((if_pos rfl).trans (inB_t.2 h))
  unfold evNode
  refine okI (fun h => ?_) fun _ => ?_
  · subst h; rw [show greatN 1 = 1 from rfl] at hg; exact nf ((if_pos rfl).trans (inB_t.2 hg))
  refine okI (fun h => ?_) fun _ => ?_
  · subst h; rw [show greatN 2 = 99 from rfl] at hg; exact nf (v2 hg)
  refine okI (fun h => okI (fun h => nf (v3 ?_)) fun _ => evOK_F w (by omega)) fun _ => ?_
  · have := inB_t.1 h; omega
  refine okI (fun _ => nf (v3 hr.who)) fun _ => ?_
  refine okI (fun _ => nf (v3 hr.what)) fun _ => ?_
  refine okI (fun _ => nf (v2 (by have := hr.act; omega))) fun _ => ?_
  refine okI (fun _ => evOK_O hr.fs nm) fun _ => ?_
  refine okI (fun _ => okI (fun h => evOK_F w (by omega)) fun _ => evOK_O (world_flds hr.hw _) nm) fun _ => ?_
  refine okI (fun _ => okI (fun h => evOK_F w (by omega)) fun _ => evOK_T w _) fun _ => ?_
  refine okI (fun _ => okI (fun h => evOK_F w (by omega)) fun _ => evOK_T w _) fun _ => ?_
  refine okI (fun _ => okI (fun h => evOK_F w (by omega)) fun _ => okI (fun _ => hk1) fun _ => hb1) fun _ => ?_
  refine okI (fun _ => okI (fun h => evOK_F w (by omega)) fun _ => okI (fun _ => hk1) fun _ => hb1) fun _ => ?_
  refine okI (fun h => evOK_F w (by omega)) fun _ => ?_
  refine okI (fun h => evOK_F w (by omega)) fun _ => ?_
  refine okI (fun _ => okI (fun _ => evOK_T w _) fun _ => evOK_F w (by omega)) fun _ => ?_
  refine okI (fun _ => okI (fun _ => evOK_T w _) fun _ => evOK_F w (by omega)) fun _ => ?_
  exact okI (fun _ => okI (fun _ => evOK_T w _) fun _ => evOK_F w (by omega)) fun _ => evOK_F w (by omega)
theorem parts_of {k n : Int} {nm : List UInt8} {ps : List Expr} (h : nodeB k n nm ps.length = true) : (ps.length : Int) = partsN k ∧ 1 ≤ k ∧ k ≤ 15 := by
  simp only [nodeB, Bool.and_eq_true, inB_t, beq_iff_eq] at h
  exact ⟨h.1.1.2, h.1.1.1.1⟩
theorem goodEs_mem : ∀ {l : List Expr}, goodEs l = true → ∀ e ∈ l, goodE e = true
  | [], _, e, h => by simp at h
  | x :: l, h, e, he => by
    rw [goodEs, Bool.and_eq_true] at h
    rcases List.mem_cons.1 he with rfl | he
    · exact h.1
    · exact goodEs_mem h.2 e he
theorem evF0_ok (w : List Thing) : evOK w ⟨1, 0, 0⟩ := ⟨fun _ => by simp [valB, inB], fun h => absurd rfl h, Int.le_refl _⟩
/-- What is not looked at does not matter. -/
theorem evNode_0 (w : List Thing) (r : Request) {k : Int} (hk : 1 ≤ k ∧ k ≤ 15) (h : partsN k = 0) (n : Int) (nm : List UInt8) (a b a' b' : Ev) : evNode w r k n nm a b = evNode w r k n nm a' b' := by
  have : k = 1 ∨ k = 2 ∨ k = 3 ∨ k = 4 ∨ k = 5 ∨ k = 6 ∨ k = 7 := by
    unfold partsN at h
    split at h
    · omega
    · split at h
      · omega
      · omega
  unfold evNode
  rcases this with rfl | rfl | rfl | rfl | rfl | rfl | rfl <;> simp
theorem evNode_1 (w : List Thing) (r : Request) {k : Int} (h : partsN k = 1) (n : Int) (nm : List UInt8) (a b b' : Ev) : evNode w r k n nm a b = evNode w r k n nm a b' := by
  have : k = 8 ∨ k = 9 ∨ k = 13 := by
    unfold partsN at h
    split at h
    · assumption
    · split at h <;> omega
  unfold evNode
  rcases this with rfl | rfl | rfl <;> simp
theorem evE_ok {w : List Thing} {r : Request} (hr : ReqOK w r) (e : Expr) : goodE e = true → evOK w (evE w r e) := by
  induction e using Expr.ind with
  | h k n nm ps ih =>
    intro hg
    rw [goodE_mk, Bool.and_eq_true] at hg
    obtain ⟨hn, hps⟩ := hg
    obtain ⟨hl, hk⟩ := parts_of hn
    have hp := partsN_le k
    match ps, ih, hn, hps, hl with
    | [], ih, hn, hps, hl =>
      rw [evE_0, evNode_0 w r hk (by simpa using hl.symm) n nm _ _ ⟨1, 0, 0⟩ ⟨1, 0, 0⟩]
      exact evNode_ok hr hn (evF0_ok w) (evF0_ok w)
    | [a], ih, hn, hps, hl =>
      rw [evE_1, evNode_1 w r (by simpa using hl.symm) n nm _ _ ⟨1, 0, 0⟩]
      exact evNode_ok hr hn (ih a (by simp) (goodEs_mem hps a (by simp))) (evF0_ok w)
    | [a, b], ih, hn, hps, hl =>
      rw [evE_2]
      exact evNode_ok hr hn (ih a (by simp) (goodEs_mem hps a (by simp))) (ih b (by simp) (goodEs_mem hps b (by simp)))
    | a :: b :: c :: l, _, _, _, hl => simp at hl; omega
end Go.Proofs.YtfgalmgldidcmaaGreat
