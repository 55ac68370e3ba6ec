/- The abstract logic, E: trees of memory, their owners, and functions that write into them. -/
import Derived.Test.YtfgalmgldidcmaaGreatCoreD
import Derived.Lib.SliceRun
import Derived.Deep.DeepHandedRow
import Derived.Deep.DeepWitnessRowRef
import Derived.LaidLaws
import Derived.LaidHandle
import Derived.FnData
import Derived.OpenVars
set_option linter.unusedVariables false
set_option linter.unusedSimpArgs false
set_option linter.unusedSectionVars false
namespace Go.AL
open Go
set_option linter.unusedSectionVars false
variable [Inhabited Glob] [Inhabited NoLend]
set_option linter.unusedSimpArgs false
set_option linter.unusedVariables false
/-! ### Trees of memory -/
def Disj (a b : List Nat) : Prop := ∀ x ∈ a, x ∉ b
theorem Disj.symm {a b : List Nat} (h : Disj a b) : Disj b a := fun x hx hy => h x hy hx

/-- The first cells of a block. -/
def cellsAt (w : World) (b : Nat) (vs : List Value) : Prop := ∃ arr T, w.heap[b]? = some (.cells arr T (0, 0)) ∧ ∀ (j : Nat) v, vs[j]? = some v → arr[j]? = some v
theorem cellsAt.frame {w w' : World} {b : Nat} {vs : List Value} (h : cellsAt w b vs) (he : w'.heap[b]? = w.heap[b]?) : cellsAt w' b vs := by
  obtain ⟨arr, T, h1, h2⟩ := h
  exact ⟨arr, T, by rw [he]; exact h1, h2⟩
theorem cellsAt.cell {w : World} {b : Nat} {vs : List Value} (h : cellsAt w b vs) {j : Nat} {v : Value} (hv : vs[j]? = some v) : w.cell? ⟨b, j, none⟩ = some v := by
  obtain ⟨arr, T, h1, h2⟩ := h
  simp only [World.cell?, h1]
  simpa using h2 j v hv

mutual
/-- A value whose memory is a tree: these blocks, each once. -/
def TreeV (w : World) : DV → Value → List Nat → Prop
  | .int k n, v, bs => v = .int k n ∧ bs = []
  | .bool b, v, bs => v = .bool b ∧ bs = []
  | .str s, v, bs => (v = .string ⟨s.toArray⟩ ∧ s.length ≤ 9223372036854775807) ∧ bs = []
  | .sl sz xs _, v, bs => ∃ a cap, v = .slice a xs.length cap ∧ (xs.length ≤ cap ∧ cap ≤ 9223372036854775807 ∧ (a = none → cap = 0) ∧ (0 < cap → ∀ adr, a = some adr → adr.spot = none)) ∧
      ((xs = [] ∧ bs = []) ∨ ∃ b vs bs', a = some ⟨b, 0, none⟩ ∧ bs = b :: bs' ∧ b ∉ bs' ∧ cellsAt w b vs ∧ (∀ x ∈ xs, x.length = sz) ∧ TreeLL w xs vs bs')
  | .pin _ _, _, _ => False
def TreeLL (w : World) : List (List DV) → List Value → List Nat → Prop
  | [], vs, bs => vs = [] ∧ bs = []
  | x :: xs, vs, bs => ∃ v1 v2 b1 b2, vs = v1 ++ v2 ∧ bs = b1 ++ b2 ∧ Disj b1 b2 ∧ TreeL w x v1 b1 ∧ TreeLL w xs v2 b2
def TreeL (w : World) : List DV → List Value → List Nat → Prop
  | [], vs, bs => vs = [] ∧ bs = []
  | c :: cs, vs, bs => ∃ v v2 b1 b2, vs = v :: v2 ∧ bs = b1 ++ b2 ∧ Disj b1 b2 ∧ TreeV w c v b1 ∧ TreeL w cs v2 b2
end

mutual
theorem TreeV.frame {w w' : World} : ∀ {c : DV} {v : Value} {bs : List Nat}, TreeV w c v bs → (∀ b ∈ bs, w'.heap[b]? = w.heap[b]?) → TreeV w' c v bs
  | .int _ _, _, _, h, _ => h
  | .bool _, _, _, h, _ => h
  | .str _, _, _, h, _ => h
  | .pin _ _, _, _, h, _ => h
  | .sl sz xs o, v, bs, h, hb => by
    simp only [TreeV] at h ⊢
    obtain ⟨a, cap, h1, h2, h3⟩ := h
    refine ⟨a, cap, h1, h2, ?_⟩
    rcases h3 with h3 | ⟨b, vs, bs', h3, rfl, h5, h6, h7, h8⟩
    · exact .inl h3
    · exact .inr ⟨b, vs, bs', h3, rfl, h5, h6.frame (hb b (by simp)), h7, TreeLL.frame h8 fun x hx => hb x (by simp [hx])⟩
theorem TreeLL.frame {w w' : World} : ∀ {c : List (List DV)} {v : List Value} {bs : List Nat}, TreeLL w c v bs → (∀ b ∈ bs, w'.heap[b]? = w.heap[b]?) → TreeLL w' c v bs
  | [], _, _, h, _ => h
  | x :: xs, v, bs, h, hb => by
    simp only [TreeLL] at h ⊢
    obtain ⟨v1, v2, b1, b2, rfl, rfl, hd, h1, h2⟩ := h
    exact ⟨v1, v2, b1, b2, rfl, rfl, hd, TreeL.frame h1 fun x hx => hb x (by simp [hx]), TreeLL.frame h2 fun x hx => hb x (by simp [hx])⟩
theorem TreeL.frame {w w' : World} : ∀ {c : List DV} {v : List Value} {bs : List Nat}, TreeL w c v bs → (∀ b ∈ bs, w'.heap[b]? = w.heap[b]?) → TreeL w' c v bs
  | [], _, _, h, _ => h
  | x :: xs, v, bs, h, hb => by
    simp only [TreeL] at h ⊢
    obtain ⟨v1, v2, b1, b2, rfl, rfl, hd, h1, h2⟩ := h
    exact ⟨v1, v2, b1, b2, rfl, rfl, hd, TreeV.frame h1 fun x hx => hb x (by simp [hx]), TreeL.frame h2 fun x hx => hb x (by simp [hx])⟩
end

mutual
/-- What a tree tells, where its blocks are known. -/
theorem TreeV.rep {w : World} {I : IH} {τ : TH} : ∀ {c : DV} {v : Value} {bs : List Nat}, TreeV w c v bs → (∀ b ∈ bs, ∀ o x, w.cell? ⟨b, o, none⟩ = some x → I b o = some x) → RepD I τ c.er v
  | .int k n, v, bs, h, _ => by simp only [TreeV] at h; obtain ⟨rfl, _⟩ := h; exact .int k n
  | .bool k, v, bs, h, _ => by simp only [TreeV] at h; obtain ⟨rfl, _⟩ := h; exact .bool k
  | .str s, v, bs, h, _ => by simp only [TreeV] at h; obtain ⟨⟨rfl, h2⟩, _⟩ := h; exact .str s h2
  | .pin _ _, _, _, h, _ => by simp only [TreeV] at h
  | .sl sz xs o, v, bs, h, hb => by
    simp only [TreeV] at h
    obtain ⟨a, cap, rfl, ⟨hc1, hc2, hc3, hc4⟩, h3⟩ := h
    simp only [DV.er]
    rcases h3 with ⟨rfl, rfl⟩ | ⟨b, vs, bs', rfl, rfl, h5, h6, h7, h8⟩
    · exact .sl sz [] .no a cap (fun _ => undef) (by simp) hc1 hc2 hc3 hc4 (by simp) (by simp) trivial
    · have hl : (erLL xs).length = xs.length := by rw [erLL_eq]; simp
      have hr : RepL I τ (erLL xs).flatten vs := TreeLL.rep h8 fun x hx => hb x (by simp [hx])
      have := RepD_of_flat (I := I) (τ := τ) (sz := sz) (zs := erLL xs) (own := .no) (adr := ⟨b, 0, none⟩) (cap := cap) (vs := vs) ?_ rfl (by rw [hl]; exact hc1) hc2 ?_ hr trivial
      · rw [hl] at this; exact this
      · intro x hx
        rw [erLL_eq] at hx
        obtain ⟨x', hx', rfl⟩ := List.mem_map.1 hx
        rw [erL_eq, List.length_map]
        exact h7 x' hx'
      · intro j v hv
        have := h6.cell hv
        rw [Nat.zero_add]
        exact hb b (by simp) j v this
theorem TreeLL.rep {w : World} {I : IH} {τ : TH} : ∀ {c : List (List DV)} {v : List Value} {bs : List Nat}, TreeLL w c v bs → (∀ b ∈ bs, ∀ o x, w.cell? ⟨b, o, none⟩ = some x → I b o = some x) → RepL I τ (erLL c).flatten v
  | [], _, _, h, _ => by simp only [TreeLL] at h; obtain ⟨rfl, _⟩ := h; simpa [erLL] using RepL.nil I τ
  | x :: xs, v, bs, h, hb => by
    simp only [TreeLL] at h
    obtain ⟨v1, v2, b1, b2, rfl, rfl, hd, h1, h2⟩ := h
    simp only [erLL, List.flatten_cons]
    exact (TreeL.rep h1 fun x hx => hb x (by simp [hx])).append (TreeLL.rep h2 fun x hx => hb x (by simp [hx]))
theorem TreeL.rep {w : World} {I : IH} {τ : TH} : ∀ {c : List DV} {v : List Value} {bs : List Nat}, TreeL w c v bs → (∀ b ∈ bs, ∀ o x, w.cell? ⟨b, o, none⟩ = some x → I b o = some x) → RepL I τ (erL c) v
  | [], _, _, h, _ => by simp only [TreeL] at h; obtain ⟨rfl, _⟩ := h; simpa [erL] using RepL.nil I τ
  | x :: xs, v, bs, h, hb => by
    simp only [TreeL] at h
    obtain ⟨v1, v2, b1, b2, rfl, rfl, hd, h1, h2⟩ := h
    simp only [erL]
    exact RepL.cons (TreeV.rep h1 fun x hx => hb x (by simp [hx])) (TreeL.rep h2 fun x hx => hb x (by simp [hx]))
end

/-! ### Who owns all of a value -/
mutual
/-- The tokens of a value that owns all its memory. -/
def ownD : DV → List Nat → Prop
  | .int _ _, ts => ts = []
  | .bool _, ts => ts = []
  | .str _, ts => ts = []
  | .sl _ xs own, ts => (xs = [] ∧ ts = []) ∨ ∃ t ts', own = .tok t ∧ ts = t :: ts' ∧ t ∉ ts' ∧ ownLL xs ts'
  | .pin _ _, _ => False
def ownLL : List (List DV) → List Nat → Prop
  | [], ts => ts = []
  | x :: xs, ts => ∃ t1 t2, ts = t1 ++ t2 ∧ Disj t1 t2 ∧ ownL x t1 ∧ ownLL xs t2
def ownL : List DV → List Nat → Prop
  | [], ts => ts = []
  | c :: cs, ts => ∃ t1 t2, ts = t1 ++ t2 ∧ Disj t1 t2 ∧ ownD c t1 ∧ ownL cs t2
end

/-- Blocks that tokens stand for. -/
def ofToks (τ : TH) (ts bs : List Nat) : Prop := ∀ b ∈ bs, ∃ t ∈ ts, ∃ e r, τ t = some (b, e, r)
theorem ofToks.disj {τ : TH} {toks ts us bs cs : List Nat} (hd : Disj ts us) (htk : ∀ t ∈ toks, ∀ u ∈ toks, ∀ b e r b' e' r', τ t = some (b, e, r) → τ u = some (b', e', r') → b = b' → t = u)
    (h1 : ∀ t ∈ ts, t ∈ toks) (h2 : ∀ t ∈ us, t ∈ toks) (hb : ofToks τ ts bs) (hc : ofToks τ us cs) : Disj bs cs := fun x hx hy => by
  obtain ⟨t, ht, e, r, h3⟩ := hb x hx
  obtain ⟨u, hu, e', r', h4⟩ := hc x hy
  have := htk t (h1 t ht) u (h2 u hu) _ _ _ _ _ _ h3 h4 rfl
  subst this
  exact hd t ht hu

section
variable {E : Ent} {objs : List AO} {toks : List Nat} {nt : Nat} {I : IH} {τ : TH} {ρ : Nat → Nat} {w : World}
mutual
theorem tree_of {c : DV} (h : St E objs toks nt I τ ρ w) : ∀ {v : Value} {ts : List Nat}, RepD I τ c v → ownD c ts → (∀ t ∈ ts, t ∈ toks) → ∃ bs, TreeV w c v bs ∧ ofToks τ ts bs := by
  intro v ts hr ho ht
  cases c with
  | int k n => cases hr; exact ⟨[], ⟨rfl, rfl⟩, fun b hb => by simp at hb⟩
  | bool b => cases hr; exact ⟨[], ⟨rfl, rfl⟩, fun b hb => by simp at hb⟩
  | str s => cases hr with | str _ hs => exact ⟨[], ⟨⟨rfl, hs⟩, rfl⟩, fun b hb => by simp at hb⟩
  | pin c v => simp only [ownD] at ho
  | sl sz xs own =>
    simp only [ownD] at ho
    have hr0 := hr
    cases hr with
    | sl _ _ _ a cap vals hsz hcap hmax hnil hadr hI hrep hown =>
    rcases ho with ⟨rfl, rfl⟩ | ⟨t, ts', rfl, rfl, htn, hol⟩
    · exact ⟨[], ⟨a, cap, rfl, ⟨hcap, hmax, hnil, hadr⟩, .inl ⟨rfl, rfl⟩⟩, fun b hb => by simp at hb⟩
    · rcases hown with h0 | ⟨b, hb, rfl⟩
      · have hx : xs = [] := List.eq_nil_of_length_eq_zero (by omega)
        subst hx
        exact ⟨[], ⟨a, cap, rfl, ⟨hcap, hmax, hnil, hadr⟩, .inl ⟨rfl, rfl⟩⟩, fun b hb => by simp at hb⟩
      · obtain ⟨_, vs, hvl, hvI, hvr⟩ := cells_flat hr0
        obtain ⟨_, g⟩ := h.tok t (ht t (by simp))
        obtain ⟨_, ⟨cur, T, g2, _⟩, _, _⟩ := g _ _ _ hb
        obtain ⟨bs', k1, k2⟩ := trees_of h hvr hol fun u hu => ht u (by simp [hu])
        refine ⟨b :: bs', ⟨some ⟨b, 0, none⟩, cap, rfl, ⟨hcap, hmax, hnil, hadr⟩, .inr ⟨b, vs, bs', rfl, rfl, fun hin => ?_, ⟨cur, T, g2, fun j v hv => ?_⟩, hsz, k1⟩⟩, fun x hx => ?_⟩
        · obtain ⟨u, hu, e, r, h3⟩ := k2 b hin
          have := h.tokd t (ht t (by simp)) u (ht u (by simp [hu])) _ _ _ _ _ _ hb h3 rfl
          subst this
          exact htn hu
        · have h1 := h.iok _ _ _ (hvI j v hv)
          simp only [World.cell?, g2, Nat.zero_add] at h1
          simpa using h1
        · simp only [List.mem_cons] at hx
          rcases hx with rfl | hx
          · exact ⟨t, by simp, _, _, hb⟩
          · obtain ⟨u, hu, e, r, h3⟩ := k2 x hx
            exact ⟨u, by simp [hu], e, r, h3⟩
theorem trees_of {xs : List (List DV)} (h : St E objs toks nt I τ ρ w) : ∀ {vs : List Value} {ts : List Nat}, RepL I τ xs.flatten vs → ownLL xs ts → (∀ t ∈ ts, t ∈ toks) → ∃ bs, TreeLL w xs vs bs ∧ ofToks τ ts bs := by
  intro vs ts hr ho ht
  cases xs with
  | nil =>
    have : vs = [] := by have := hr.1; simpa using this.symm
    exact ⟨[], ⟨this, rfl⟩, fun b hb => by simp at hb⟩
  | cons x xs =>
    simp only [ownLL] at ho
    obtain ⟨t1, t2, rfl, hd, h1, h2⟩ := ho
    simp only [List.flatten_cons] at hr
    have ha : RepL I τ x (vs.take x.length) := by have := hr.take x.length; rwa [List.take_left'] at this; rfl
    have hb : RepL I τ xs.flatten (vs.drop x.length) := by have := hr.drop x.length; rwa [List.drop_left'] at this; rfl
    obtain ⟨b1, k1, k2⟩ := treel_of h ha h1 fun u hu => ht u (by simp [hu])
    obtain ⟨b2, k3, k4⟩ := trees_of h hb h2 fun u hu => ht u (by simp [hu])
    refine ⟨b1 ++ b2, ⟨_, _, b1, b2, (List.take_append_drop x.length vs).symm, rfl, ofToks.disj hd h.tokd (fun u hu => ht u (by simp [hu])) (fun u hu => ht u (by simp [hu])) k2 k4, k1, k3⟩, fun b hb => ?_⟩
    rcases List.mem_append.1 hb with hb | hb
    · obtain ⟨u, hu, z⟩ := k2 b hb; exact ⟨u, by simp [hu], z⟩
    · obtain ⟨u, hu, z⟩ := k4 b hb; exact ⟨u, by simp [hu], z⟩
theorem treel_of {xs : List DV} (h : St E objs toks nt I τ ρ w) : ∀ {vs : List Value} {ts : List Nat}, RepL I τ xs vs → ownL xs ts → (∀ t ∈ ts, t ∈ toks) → ∃ bs, TreeL w xs vs bs ∧ ofToks τ ts bs := by
  intro vs ts hr ho ht
  cases xs with
  | nil =>
    have : vs = [] := by have := hr.1; simpa using this.symm
    exact ⟨[], ⟨this, rfl⟩, fun b hb => by simp at hb⟩
  | cons x xs =>
    simp only [ownL] at ho
    obtain ⟨t1, t2, rfl, hd, h1, h2⟩ := ho
    obtain ⟨v, us, rfl, hx, hxs⟩ := repL_one hr
    obtain ⟨b1, k1, k2⟩ := tree_of h hx h1 fun u hu => ht u (by simp [hu])
    obtain ⟨b2, k3, k4⟩ := treel_of h hxs h2 fun u hu => ht u (by simp [hu])
    refine ⟨b1 ++ b2, ⟨v, us, b1, b2, rfl, rfl, ofToks.disj hd h.tokd (fun u hu => ht u (by simp [hu])) (fun u hu => ht u (by simp [hu])) k2 k4, k1, k3⟩, fun b hb => ?_⟩
    rcases List.mem_append.1 hb with hb | hb
    · obtain ⟨u, hu, z⟩ := k2 b hb; exact ⟨u, by simp [hu], z⟩
    · obtain ⟨u, hu, z⟩ := k4 b hb; exact ⟨u, by simp [hu], z⟩
end
end

mutual
/-- A value that owns its memory is known by its own blocks alone. -/
theorem RepD.only {I I' : IH} {τ : TH} {c : DV} : ∀ {v : Value} {ts : List Nat}, RepD I τ c v → ownD c ts → (∀ t ∈ ts, ∀ b e r, τ t = some (b, e, r) → ∀ o, I' b o = I b o) → RepD I' τ c v := by
  intro v ts hr ho ht
  cases c with
  | int k n => cases hr; exact .int k n
  | bool b => cases hr; exact .bool b
  | str s => cases hr with | str _ hs => exact .str s hs
  | pin c v => simp only [ownD] at ho
  | sl sz xs own =>
    simp only [ownD] at ho
    have hr0 := hr
    cases hr with
    | sl _ _ _ a cap vals hsz hcap hmax hnil hadr hI hrep hown =>
    rcases ho with ⟨rfl, rfl⟩ | ⟨t, ts', rfl, rfl, htn, hol⟩
    · exact .sl sz [] own a cap vals (by simp) hcap hmax hnil hadr (by simp) (by simp) hown
    · rcases hown with h0 | ⟨b, hb, rfl⟩
      · have hx : xs = [] := List.eq_nil_of_length_eq_zero (by omega)
        subst hx
        exact .sl sz [] _ a cap vals (by simp) hcap hmax hnil hadr (by simp) (by simp) (.inl h0)
      · obtain ⟨_, vs, hvl, hvI, hvr⟩ := cells_flat hr0
        have := RepD_of_flat (I := I') (τ := τ) (sz := sz) (zs := xs) (own := .tok t) (adr := ⟨b, 0, none⟩) (cap := cap) (vs := vs) hsz rfl hcap hmax (fun j v hv => by
          have h1 := hvI j v hv
          rw [← h1]
          exact ht t (by simp) b _ _ hb _) (RepLL.only hvr hol fun u hu => ht u (by simp [hu])) (.inr ⟨b, hb, rfl⟩)
        exact this
theorem RepLL.only {I I' : IH} {τ : TH} {xs : List (List DV)} : ∀ {vs : List Value} {ts : List Nat}, RepL I τ xs.flatten vs → ownLL xs ts → (∀ t ∈ ts, ∀ b e r, τ t = some (b, e, r) → ∀ o, I' b o = I b o) → RepL I' τ xs.flatten vs := by
  intro vs ts hr ho ht
  cases xs with
  | nil =>
    have : vs = [] := by have := hr.1; simpa using this.symm
    subst this
    exact RepL.nil I' τ
  | cons x xs =>
    simp only [ownLL] at ho
    obtain ⟨t1, t2, rfl, hd, h1, h2⟩ := ho
    simp only [List.flatten_cons] at hr ⊢
    have ha : RepL I τ x (vs.take x.length) := by have := hr.take x.length; rwa [List.take_left'] at this; rfl
    have hb : RepL I τ xs.flatten (vs.drop x.length) := by have := hr.drop x.length; rwa [List.drop_left'] at this; rfl
    have := (RepL.only ha h1 fun u hu => ht u (by simp [hu])).append (RepLL.only hb h2 fun u hu => ht u (by simp [hu]))
    rwa [List.take_append_drop] at this
theorem RepL.only {I I' : IH} {τ : TH} {xs : List DV} : ∀ {vs : List Value} {ts : List Nat}, RepL I τ xs vs → ownL xs ts → (∀ t ∈ ts, ∀ b e r, τ t = some (b, e, r) → ∀ o, I' b o = I b o) → RepL I' τ xs vs := by
  intro vs ts hr ho ht
  cases xs with
  | nil =>
    have : vs = [] := by have := hr.1; simpa using this.symm
    subst this
    exact RepL.nil I' τ
  | cons x xs =>
    simp only [ownL] at ho
    obtain ⟨t1, t2, rfl, hd, h1, h2⟩ := ho
    obtain ⟨v, us, rfl, hx, hxs⟩ := repL_one hr
    exact RepL.cons (RepD.only hx h1 fun u hu => ht u (by simp [hu])) (RepL.only hxs h2 fun u hu => ht u (by simp [hu]))
end
end Go.AL

namespace Go.AL
open Go
set_option linter.unusedSectionVars false
variable [Inhabited Glob] [Inhabited NoLend]
set_option linter.unusedSimpArgs false
set_option linter.unusedVariables false
/-! ### A made slice becomes known, and keeps its owner -/
/-! ### From here on all that there is stays as it is -/
def DV.pn (v : Value) : DV → DV
  | .sl sz xs _ => .pin (.sl sz (erLL xs) .no) v
  | .pin c _ => .pin c.er v
  | c => c
def pnL (g : Nat → Value) : Nat → List DV → List DV
  | _, [] => []
  | i, c :: cs => c.pn (g i) :: pnL g (i + 1) cs
def AV.pn (g : Nat → Value) : AV → AV
  | .d c => .d (c.pn (g 0))
  | .agg cs => .agg (pnL g 0 cs)
  | .ptr o off => .ptr o off
  | _ => .unk
def AO.pn (g : Nat → Value) : AO → AO
  | .cells cs => .cells (pnL g 0 cs)
  | _ => .gone
def pnE (g : Nat → Nat → Value) : List (Nat × AV) → List (Nat × AV)
  | [] => []
  | p :: l => (p.1, p.2.pn (g p.1)) :: pnE g l
def pnO (g : Nat → Nat → Value) : Nat → List AO → List AO
  | _, [] => []
  | i, o :: l => o.pn (g i) :: pnO g (i + 1) l
/-- What a pin tells, by what was known. -/
def DV.pins (I : IH) : DV → Prop
  | .pin c v => RepD I (fun _ => none) c v
  | _ => True
def pinsL (I : IH) : List DV → Prop
  | [] => True
  | c :: cs => c.pins I ∧ pinsL I cs
def AV.pins (I : IH) : AV → Prop
  | .d c => c.pins I
  | .agg cs => pinsL I cs
  | _ => True
def AO.pins (I : IH) : AO → Prop
  | .cells cs => pinsL I cs
  | _ => True
def pinsE (I : IH) : List (Nat × AV) → Prop
  | [] => True
  | p :: l => p.2.pins I ∧ pinsE I l
def pinsO (I : IH) : List AO → Prop
  | [] => True
  | o :: l => o.pins I ∧ pinsO I l

theorem RepD.noTok {I : IH} {τ τ' : TH} : ∀ {c : DV} {v : Value}, RepD I τ c v → RepD I τ' c.er v := by
  intro c v h
  induction h with
  | int k n => exact .int k n
  | bool b => exact .bool b
  | str s hs => exact .str s hs
  | pin c v _ ih => exact ih
  | sl sz xs own a cap vals hsz hcap hmax hnil hadr hI _ hown ih =>
    have hl : (erLL xs).length = xs.length := by rw [erLL_eq]; simp
    have hget : ∀ (i : Nat) x (j : Nat) c, (erLL xs)[i]? = some x → x[j]? = some c → ∃ x' c', xs[i]? = some x' ∧ x'[j]? = some c' ∧ c = c'.er := by
      intro i x j c hx hc
      rw [erLL_eq, List.getElem?_map, Option.map_eq_some_iff] at hx
      obtain ⟨x', hx', rfl⟩ := hx
      rw [erL_eq, List.getElem?_map, Option.map_eq_some_iff] at hc
      obtain ⟨c', hc', rfl⟩ := hc
      exact ⟨x', c', hx', hc', rfl⟩
    have := RepD.sl (I := I) (τ := τ') sz (erLL xs) .no a cap vals ?_ (by rw [hl]; exact hcap) hmax hnil hadr ?_ ?_ trivial
    · rw [hl] at this
      exact this
    · intro x hx
      rw [erLL_eq] at hx
      obtain ⟨x', hx', rfl⟩ := List.mem_map.1 hx
      rw [erL_eq, List.length_map]
      exact hsz x' hx'
    · intro adr ha i x j c hx hc
      obtain ⟨x', c', h1, h2, _⟩ := hget i x j c hx hc
      exact hI adr ha i x' j c' h1 h2
    · intro i x j c hx hc
      obtain ⟨x', c', h1, h2, rfl⟩ := hget i x j c hx hc
      exact ih i x' j c' h1 h2
theorem RepD.pn {I : IH} {τ : TH} {c : DV} {v : Value} (h : RepD I τ c v) : RepD I (fun _ => none) (c.pn v) v := by
  cases c with
  | int k n => cases h; exact .int k n
  | bool b => cases h; exact .bool b
  | str s => cases h with | str _ hs => exact .str s hs
  | sl sz xs own => exact .pin _ _ h.noTok
  | pin c u =>
    cases h with
    | pin _ _ h => exact .pin _ _ h.noTok
theorem RepL.pn {I : IH} {τ : TH} {g : Nat → Value} : ∀ {cs : List DV} {vs : List Value} {i : Nat}, RepL I τ cs vs → (∀ (j : Nat) v, vs[j]? = some v → g (i + j) = v) → RepL I (fun _ => none) (pnL g i cs) vs
  | [], vs, i, h, _ => by
    have : vs = [] := by have := h.1; simpa using this.symm
    subst this
    exact RepL.nil I _
  | c :: cs, vs, i, h, hg => by
    obtain ⟨v, us, rfl, hx, hxs⟩ := repL_one h
    have h0 := hg 0 v (by simp)
    rw [Nat.add_zero] at h0
    simp only [pnL, h0]
    exact RepL.cons hx.pn (RepL.pn hxs fun j u hu => by have := hg (j + 1) u (by simpa using hu); rwa [show i + 1 + j = i + (j + 1) by omega])
theorem RepA.pn {I : IH} {τ : TH} {ρ : Nat → Nat} {n : Nat} {v : AV} {x : Value} {g : Nat → Value} (h : RepA I τ ρ n v x) (hg : ∀ (j : Nat) u, x.cells.toList[j]? = some u → g j = u) : RepA I (fun _ => none) ρ n (v.pn g) x := by
  cases h with
  | d c v hd =>
    have h0 : g 0 = x := hg 0 x (by rw [hd.cells]; rfl)
    simp only [AV.pn, h0]
    exact .d _ _ hd.pn
  | agg cs vs hl => exact .agg _ _ (RepL.pn hl fun j u hu => by rw [Nat.zero_add]; exact hg j u hu)
  | ptr o off ho => exact .ptr o off ho
  | _ => exact .unk _
/-- The answer stands in a slot. -/
def QB (rt : Nat) : Exit → AS → Prop
  | .normal, s | .ret, s => getE s.env rt = .d (.bool true)
  | _, _ => False

attribute [go_sem] pickE pnE pnO DV.pn pnL AV.pn AO.pn
end Go.AL

namespace Go.AL
open Go
set_option linter.unusedSectionVars false
variable [Inhabited Glob] [Inhabited NoLend]
set_option linter.unusedSimpArgs false
set_option linter.unusedVariables false
/-! ### A call that writes into memory that it was handed -/
structure FrameW (F : List Nat) (w w' : World) : Prop where
  size : w.heap.size ≤ w'.heap.size
  same : ∀ b, b < w.heap.size → b ∉ F → w'.heap[b]? = w.heap[b]?
  os : w'.os = w.os
  tape : w'.tape = w.tape
  output : w'.output = w.output
theorem FrameW.refl (F : List Nat) (w : World) : FrameW F w w := ⟨Nat.le_refl _, fun _ _ _ => rfl, rfl, rfl, rfl⟩
theorem FrameW.trans {F : List Nat} {w w' w'' : World} (h : FrameW F w w') (h' : FrameW F w' w'') : FrameW F w w'' :=
  ⟨Nat.le_trans h.size h'.size, fun b hb hn => (h'.same b (Nat.lt_of_lt_of_le hb h.size) hn).trans (h.same b hb hn), h'.os.trans h.os, h'.tape.trans h.tape, h'.output.trans h.output⟩
theorem FrameW.mono {F F' : List Nat} {w w' : World} (h : FrameW F w w') (hf : ∀ b ∈ F, b ∈ F') : FrameW F' w w' :=
  ⟨h.size, fun b hb hn => h.same b hb fun hi => hn (hf b hi), h.os, h.tape, h.output⟩

def TreeA (w : World) : AV → Value → List Nat → Prop
  | .d c, v, bs => TreeV w c v bs
  | .agg cs, v, bs => ∃ vs, v = .agg (List.toArray vs) ∧ TreeL w cs vs bs
  | _, _, _ => False

/-- A function that fills what it was handed with numbers. -/
def MarkF (P : Program) (g : FuncId) (d d' : AV) (k k' : Int) : Prop :=
  CallOK P g ∧ ∀ (w : World) (v : Value) (bs : List Nat), TreeA w d v bs → Calls P g [v, Value.int .i64 k].toArray w fun e w' => e = .returned (.int .i64 k') ∧ TreeA w' d' v bs ∧ FrameW bs w w'

mutual
theorem TreeV.er {w : World} : ∀ {c : DV} {v : Value} {bs : List Nat}, TreeV w c v bs → TreeV w c.er v bs
  | .int _ _, _, _, h => h
  | .bool _, _, _, h => h
  | .str _, _, _, h => h
  | .pin _ _, _, _, h => by simp only [TreeV] at h
  | .sl sz xs o, v, bs, h => by
    simp only [TreeV, DV.er] at h ⊢
    have hl : (erLL xs).length = xs.length := by rw [erLL_eq]; simp
    obtain ⟨a, cap, h1, h2, h3⟩ := h
    refine ⟨a, cap, by rw [hl]; exact h1, by rw [hl]; exact h2, ?_⟩
    rcases h3 with ⟨rfl, h3⟩ | ⟨b, vs, bs', h3, rfl, h5, h6, h7, h8⟩
    · exact .inl ⟨rfl, h3⟩
    · refine .inr ⟨b, vs, bs', h3, rfl, h5, h6, fun x hx => ?_, TreeLL.er h8⟩
      rw [erLL_eq] at hx
      obtain ⟨x', hx', rfl⟩ := List.mem_map.1 hx
      rw [erL_eq, List.length_map]
      exact h7 x' hx'
theorem TreeLL.er {w : World} : ∀ {c : List (List DV)} {v : List Value} {bs : List Nat}, TreeLL w c v bs → TreeLL w (erLL c) v bs
  | [], _, _, h => h
  | x :: xs, v, bs, h => by
    simp only [TreeLL, erLL] at h ⊢
    obtain ⟨v1, v2, b1, b2, rfl, rfl, hd, h1, h2⟩ := h
    exact ⟨v1, v2, b1, b2, rfl, rfl, hd, TreeL.er h1, TreeLL.er h2⟩
theorem TreeL.er {w : World} : ∀ {c : List DV} {v : List Value} {bs : List Nat}, TreeL w c v bs → TreeL w (erL c) v bs
  | [], _, _, h => h
  | x :: xs, v, bs, h => by
    simp only [TreeL, erL] at h ⊢
    obtain ⟨v1, v2, b1, b2, rfl, rfl, hd, h1, h2⟩ := h
    exact ⟨v1, v2, b1, b2, rfl, rfl, hd, TreeV.er h1, TreeL.er h2⟩
end
theorem TreeA.er {w : World} {d : AV} {v : Value} {bs : List Nat} (h : TreeA w d v bs) : TreeA w d.er v bs := by
  cases d with
  | d c => exact TreeV.er h
  | agg cs => obtain ⟨vs, h1, h2⟩ := h; exact ⟨vs, h1, h2.er⟩
  | _ => exact h.elim

/-! ### What stays as it is, whatever that memory holds -/
/-- A value that is old, or that owns its memory by these tokens. -/
def keepD (I0 : IH) (T : List Nat) : DV → Prop
  | .pin c v => RepD I0 (fun _ => none) c v
  | .sl sz xs own => ∃ ts, ownD (.sl sz xs own) ts ∧ ∀ t ∈ ts, t ∈ T
  | _ => True
def keepL (I0 : IH) (T : List Nat) : List DV → Prop
  | [] => True
  | c :: cs => keepD I0 T c ∧ keepL I0 T cs
def keepA (I0 : IH) (T : List Nat) : AV → Prop
  | .d c => keepD I0 T c
  | .agg cs => keepL I0 T cs
  | .ptr _ _ => True
  | .unk => True
  | _ => False
def keepO (I0 : IH) (T : List Nat) : AO → Prop
  | .cells cs => keepL I0 T cs
  | .map _ => False
  | .gone => True
def keepE (I0 : IH) (T : List Nat) : List (Nat × AV) → Prop
  | [] => True
  | p :: l => keepA I0 T p.2 ∧ keepE I0 T l
def keepOs (I0 : IH) (T : List Nat) : List AO → Prop
  | [] => True
  | o :: l => keepO I0 T o ∧ keepOs I0 T l
open Classical in
/-- What is known behind such a call. -/
noncomputable def seenI (I : IH) (bs : List Nat) (w' : World) : IH := fun b o => if b ∈ bs then w'.cell? ⟨b, o, none⟩ else I b o

section
variable {E : Ent} {objs : List AO} {toks : List Nat} {nt : Nat} {I : IH} {τ : TH} {ρ : Nat → Nat} {w w' : World} {bs ts T : List Nat}
theorem seenI_in {b o : Nat} (h : b ∈ bs) : seenI I bs w' b o = w'.cell? ⟨b, o, none⟩ := by simp [seenI, h]
theorem seenI_out {b o : Nat} (h : b ∉ bs) : seenI I bs w' b o = I b o := by simp [seenI, h]

theorem blocks_new (h : St E objs toks nt I τ ρ w) (hbs : ofToks τ ts bs) (hts : ∀ t ∈ ts, t ∈ toks) : ∀ b ∈ bs, E.w0.heap.size ≤ b ∧ b < w.heap.size ∧ ∀ i, i < objs.length → ρ i ≠ b := fun b hb => by
  obtain ⟨t, ht, e, r, h1⟩ := hbs b hb
  obtain ⟨_, g⟩ := h.tok t (hts t ht)
  obtain ⟨g1, ⟨cur, T, g2, _⟩, _, g4⟩ := g _ _ _ h1
  exact ⟨g1.resolve_right (E.nolb _), (Array.getElem?_eq_some_iff.1 g2).1, g4⟩

theorem St.marked (h : St E objs toks nt I τ ρ w) (hbs : ofToks τ ts bs) (hts : ∀ t ∈ ts, t ∈ toks) (hT : ∀ t ∈ T, t ∈ toks) (hd : Disj T ts) (hF : FrameW bs w w') {objs' : List AO} (hl : objs'.length = objs.length)
    (hobj : ∀ (i : Nat) o, objs'[i]? = some o → RepO (seenI I bs w') τ o (w'.heap[ρ i]?)) : St E objs' T nt (seenI I bs w') τ ρ w' := by
  have hnew := blocks_new h hbs hts
  have hold : ∀ b, b < E.w0.heap.size → b ∉ bs := fun b hb hin => by have := (hnew b hin).1; omega
  have hobn : ∀ i, i < objs.length → ρ i ∉ bs := fun i hi hin => (hnew _ hin).2.2 i hi rfl
  refine ⟨fun b o v hv => ?_, hobj, fun i hi => ?_, fun i j hi hj => h.inj i j (by omega) (by omega), fun t ht => ?_, fun t ht u hu => h.tokd t (hT t ht) u (hT u hu), hF.os.trans h.os, hF.tape.trans h.tape, hF.output.trans h.output, Nat.le_trans h.size hF.size, fun b hb hi => ?_, fun b hb o => ?_, fun b hb => absurd hb (E.nolb b), h.rho, fun i hi hj => h.fresh i hi (by omega), h.tau, by rw [hl]; exact h.len, h.ntle, h.i0, h.tn⟩
  · by_cases hin : b ∈ bs
    · rwa [seenI_in hin] at hv
    · rw [seenI_out hin] at hv
      have h1 := h.iok b o v hv
      have h2 := h.lt_of_I hv
      simpa [World.cell?, hF.same b h2 hin] using h1
  · rw [hl] at hi
    refine ⟨Nat.lt_of_lt_of_le (h.objI i hi).1 hF.size, fun off => ?_⟩
    rw [seenI_out (hobn i hi)]
    exact (h.objI i hi).2 off
  · obtain ⟨g1, g⟩ := h.tok t (hT t ht)
    refine ⟨g1, fun b e r hb => ?_⟩
    obtain ⟨k1, ⟨cur, T', k2, k3⟩, k4, k5⟩ := g b e r hb
    have hin : b ∉ bs := fun hin => by
      obtain ⟨u, hu, e', r', h3⟩ := hbs b hin
      have := h.tokd t (hT t ht) u (hts u hu) _ _ _ _ _ _ hb h3 rfl
      subst this
      exact hd t ht hu
    refine ⟨k1, ⟨cur, T', ?_, k3⟩, fun o ho => ?_, fun i hi => k5 i (by omega)⟩
    · rw [hF.same b (Array.getElem?_eq_some_iff.1 k2).1 hin]; exact k2
    · rw [seenI_out hin]; exact k4 o ho
  · rw [hF.same b (Nat.lt_of_lt_of_le hb h.size) (hold b hb)]
    exact h.blk b hb hi
  · rw [seenI_out (hold b hb.1)]
    exact h.ifr b hb o
end

/-! ### The same, in a walk -/
theorem put_at {a : Act} {n d : Nat} {x : Value} (hs : a.tmps.size = n) (hd : d < n) : (a.put (some d) x).tmps.getD d undef = x := by rw [Act.getD_put a d x d (by omega), if_pos rfl]
theorem put_ne {a : Act} {n d t : Nat} {x : Value} (hs : a.tmps.size = n) (hd : d < n) (hne : t ≠ d) : (a.put (some d) x).tmps.getD t undef = a.tmps.getD t undef := by rw [Act.getD_put a d x t (by omega), if_neg hne]
theorem put_size {a : Act} {n d : Nat} {x : Value} (hs : a.tmps.size = n) : (a.put (some d) x).tmps.size = n := by simp [Act.put, hs]
theorem put_defers {a : Act} {d : Nat} {x : Value} (hs : a.defers = []) : (a.put (some d) x).defers = [] := by simpa [Act.put] using hs

def offB (L : List Nat) (t : Nat) : Bool := !L.contains t
end Go.AL

namespace Go.AL
open Go
set_option linter.unusedSectionVars false
variable [Inhabited Glob] [Inhabited NoLend]
set_option linter.unusedSimpArgs false
set_option linter.unusedVariables false
/-! ### Functions that write into memory that they were handed: slots that hold known values -/
def getP : List (Nat × Value) → Nat → Option Value
  | [], _ => none
  | p :: l, t => if t = p.1 then some p.2 else getP l t
structure PS (n : Nat) (env : List (Nat × Value)) (M : World → Prop) (a : Act) (w : World) : Prop where
  sz : a.tmps.size = n
  df : a.defers = []
  ev : ∀ t v, getP env t = some v → a.tmps.getD t undef = v
  m : M w
def pev (env : List (Nat × Value)) : Operand → Option Value
  | .tmp t => getP env t
  | .const v => some v
  | _ => none
theorem PS.eval {n : Nat} {env : List (Nat × Value)} {M : World → Prop} {a : Act} {w : World} (h : PS n env M a w) {x : Operand} {v : Value} (hx : pev env x = some v) : a.eval x = v := by
  cases x with
  | tmp t => exact h.ev t v hx
  | const c => simp only [pev, Option.some.injEq] at hx; subst hx; rfl
  | _ => cases hx
theorem PS.put {n : Nat} {env : List (Nat × Value)} {M M' : World → Prop} {a : Act} {w w' : World} (h : PS n env M a w) {d : Nat} (hd : d < n) (v : Value) (hm : M' w') : PS n ((d, v) :: env) M' (a.put (some d) v) w' := by
  refine ⟨put_size h.sz, put_defers h.df, fun t u ht => ?_, hm⟩
  simp only [getP] at ht
  split at ht
  · rename_i e
    subst e
    cases ht
    exact put_at h.sz hd
  · rename_i e
    rw [put_ne h.sz hd e]
    exact h.ev t u ht
theorem PS.sub {n : Nat} {env env' : List (Nat × Value)} {M M' : World → Prop} {a : Act} {w : World} (h : PS n env M a w) (he : ∀ p ∈ env', getP env p.1 = some p.2) (hm : ∀ w, M w → M' w) : PS n env' M' a w := by
  refine ⟨h.sz, h.df, fun t v ht => ?_, hm w h.m⟩
  have key : ∀ l : List (Nat × Value), (∀ p ∈ l, getP env p.1 = some p.2) → getP l t = some v → getP env t = some v := by
    intro l
    induction l with
    | nil => intro _ h; cases h
    | cons p l ih =>
      intro hl hg
      simp only [getP] at hg
      split at hg
      · rename_i e; cases hg; rw [e]; exact hl p (by simp)
      · exact ih (fun q hq => hl q (by simp [hq])) hg
  exact h.ev t v (key env' he ht)

def PW (P : Program) (n : Nat) (c : Code) (Q : Exit → Act → World → Prop) (env : List (Nat × Value)) (M : World → Prop) : Prop := ∀ a w, PS n env M a w → c.wp P Q a w
def PR (P : Program) (n : Nat) (all : Array Oper) (l : List Oper) (Q : Exit → Act → World → Prop) (env : List (Nat × Value)) (M : World → Prop) : Prop := ∀ a w, PS n env M a w → wpList P all Q l a w
def PQ (n : Nat) (Q : Exit → Act → World → Prop) (e : Exit) (env : List (Nat × Value)) (M : World → Prop) : Prop := ∀ a w, PS n env M a w → Q e a w
section
variable {P : Program} {n : Nat} {Q : Exit → Act → World → Prop} {env : List (Nat × Value)} {M : World → Prop}
variable {all : Array Oper} {rest : List Oper} {y : TypeId} {p : String} {f : Array Edge} {d : Nat} {x x2 : Operand}
end

/-! ### The memory that is written -/
mutual
theorem TreeV.lt {w : World} : ∀ {c : DV} {v : Value} {bs : List Nat}, TreeV w c v bs → ∀ b ∈ bs, b < w.heap.size
  | .int _ _, _, _, h, b, hb => by simp only [TreeV] at h; rw [h.2] at hb; simp at hb
  | .bool _, _, _, h, b, hb => by simp only [TreeV] at h; rw [h.2] at hb; simp at hb
  | .str _, _, _, h, b, hb => by simp only [TreeV] at h; rw [h.2] at hb; simp at hb
  | .pin _ _, _, _, h, _, _ => by simp only [TreeV] at h
  | .sl sz xs o, v, bs, h, x, hx => by
    simp only [TreeV] at h
    obtain ⟨a, cap, h1, h2, ⟨_, rfl⟩ | ⟨b, vs, bs', h3, rfl, h5, ⟨arr, T, h6, _⟩, h7, h8⟩⟩ := h
    · simp at hx
    · simp only [List.mem_cons] at hx
      rcases hx with rfl | hx
      · exact (Array.getElem?_eq_some_iff.1 h6).1
      · exact TreeLL.lt h8 x hx
theorem TreeLL.lt {w : World} : ∀ {c : List (List DV)} {v : List Value} {bs : List Nat}, TreeLL w c v bs → ∀ b ∈ bs, b < w.heap.size
  | [], _, _, h, b, hb => by simp only [TreeLL] at h; rw [h.2] at hb; simp at hb
  | x :: xs, v, bs, h, b, hb => by
    simp only [TreeLL] at h
    obtain ⟨v1, v2, b1, b2, rfl, rfl, hd, h1, h2⟩ := h
    rcases List.mem_append.1 hb with hb | hb
    · exact TreeL.lt h1 b hb
    · exact TreeLL.lt h2 b hb
theorem TreeL.lt {w : World} : ∀ {c : List DV} {v : List Value} {bs : List Nat}, TreeL w c v bs → ∀ b ∈ bs, b < w.heap.size
  | [], _, _, h, b, hb => by simp only [TreeL] at h; rw [h.2] at hb; simp at hb
  | x :: xs, v, bs, h, b, hb => by
    simp only [TreeL] at h
    obtain ⟨v1, v2, b1, b2, rfl, rfl, hd, h1, h2⟩ := h
    rcases List.mem_append.1 hb with hb | hb
    · exact TreeV.lt h1 b hb
    · exact TreeL.lt h2 b hb
end
def isSc : DV → Bool
  | .int _ _ => true
  | .bool _ => true
  | .str _ => true
  | _ => false
/-- A number, a truth or a text, and its value. -/
def scal : DV → Value → Prop
  | .int k n, v => v = .int k n
  | .bool b, v => v = .bool b
  | .str s, v => v = .string ⟨s.toArray⟩ ∧ s.length ≤ 9223372036854775807
  | _, _ => False
/-- Block b begins with these cells; the blocks F alone were written. -/
def MT (w0 : World) (F : List Nat) (b : Nat) (bs : List Nat) (ds : List DV) (w : World) : Prop := ∃ vs, cellsAt w b vs ∧ TreeL w ds vs bs ∧ b ∉ bs ∧ FrameW F w0 w
theorem MT.ext {w0 : World} {F : List Nat} {b : Nat} {bs : List Nat} {ds : List DV} {w w' : World} (hF : FrameW [] w w') (h : MT w0 F b bs ds w) : MT w0 F b bs ds w' := by
  obtain ⟨vs, h1, h2, h3, h4⟩ := h
  obtain ⟨arr, T, h5, _⟩ := id h1
  exact ⟨vs, h1.frame (hF.same b (Array.getElem?_eq_some_iff.1 h5).1 (by simp)), h2.frame fun x hx => hF.same x (h2.lt x hx) (by simp), h3, h4.trans (hF.mono (by simp))⟩
section
variable {P : Program} {n : Nat} {Q : Exit → Act → World → Prop} {env : List (Nat × Value)} {all : Array Oper} {rest : List Oper} {y : TypeId} {p : String} {f : Array Edge} {x x2 : Operand} {w0 : World} {F bs : List Nat} {b : Nat} {pre cs post : List DV}
end

/-- The end of such a function. -/
def MQ (rt : Nat) (k' : Int) (Φ : World → Prop) (e : Exit) (a : Act) (w : World) : Prop := (e = .normal ∨ e = .ret) ∧ a.tmps.getD rt undef = .int .i64 k' ∧ a.defers = [] ∧ Φ w
/-! ### Lists that are marked one element after the other -/
def mkL {α : Type} (f : α → Int → α) (c : α → Int) : List α → Int → List α
  | [], _ => []
  | x :: l, k => f x k :: mkL f c l (k + c x)
def cnL {α : Type} (c : α → Int) : List α → Int
  | [] => 0
  | x :: l => c x + cnL c l
/-- What the cells hold when the first i elements are done. -/
def mixD {α : Type} (enc : α → List DV) (f : α → Int → α) (c : α → Int) (l : List α) (k : Int) (i : Nat) : List DV := ((mkL f c (l.take i) k).map enc).flatten ++ ((l.drop i).map enc).flatten
end Go.AL

namespace Go.AL
open Go
set_option linter.unusedSectionVars false
variable [Inhabited Glob] [Inhabited NoLend]
set_option linter.unusedSimpArgs false
set_option linter.unusedVariables false
/-! ### Results that own their memory -/
def ownA : AV → List Nat → Prop
  | .d c, t => ownD c t
  | .agg cs, t => ownL cs t
  | .tup [.d c, .d (.bool _)], t => ownD c t
  | .tup [.agg cs, .d (.bool _)], t => ownL cs t
  | _, _ => False
/-- What a function hands back: this value, in memory of its own. -/
def OwnR (r : AV) (n : Nat) (v : AV) (o : List AO) (t : List Nat) (m : Nat) : Prop := o = [] ∧ ownA v t ∧ (∀ x ∈ t, n ≤ x ∧ x < m) ∧ v.erR = r ∧ n ≤ m
/-- A slice that grows: it has nothing, or a token of its own. -/
def ownS (own : Own) (n nt : Nat) (e : Prop) : Prop := (own = .full ∧ e) ∨ ∃ t, own = .tok t ∧ n ≤ t ∧ t < nt
end Go.AL
namespace Go.AL
open Go
set_option linter.unusedSectionVars false
variable [Inhabited Glob] [Inhabited NoLend]
/-- A walk that is to wait here. -/
structure Stop (p : Prop) : Prop where
  out : p
theorem Stop.go {P : Program} {E : Ent} {c : Code} {Q : Exit → AS → Prop} {s : AS} (h : Stop (AWp P E c Q s)) : AWp P E c Q s := h.out
end Go.AL
namespace Go.AL
open Go
set_option linter.unusedSectionVars false
variable [Inhabited Glob] [Inhabited NoLend]
end Go.AL
namespace Go.AL
open Go
set_option linter.unusedSectionVars false
variable [Inhabited Glob] [Inhabited NoLend]
end Go.AL
namespace Go.AL
open Go
set_option linter.unusedSectionVars false
variable [Inhabited Glob] [Inhabited NoLend]
def MTV (w0 : World) (F : List Nat) (b : Nat) (bs : List Nat) (vs : List Value) (ds : List DV) (w : World) : Prop := cellsAt w b vs ∧ TreeL w ds vs bs ∧ b ∉ bs ∧ FrameW F w0 w
section
variable {P : Program} {n : Nat} {Q : Exit → Act → World → Prop} {env : List (Nat × Value)} {all : Array Oper} {rest : List Oper} {y : TypeId} {p : String} {f : Array Edge} {x x2 : Operand} {w0 : World} {F bs : List Nat} {b : Nat} {pre cs post : List DV}
end
end Go.AL
namespace Go.AL
open Go
set_option linter.unusedSectionVars false
variable [Inhabited Glob] [Inhabited NoLend]
end Go.AL
namespace Go.AL
open Go
set_option linter.unusedSectionVars false
variable [Inhabited Glob] [Inhabited NoLend]
end Go.AL
namespace Go.AL
open Go
set_option linter.unusedSectionVars false
variable [Inhabited Glob] [Inhabited NoLend]
end Go.AL

set_option linter.unusedSimpArgs false
set_option linter.unusedVariables false
namespace Go.AL
open Go
set_option linter.unusedSectionVars false
variable [Inhabited Glob] [Inhabited NoLend]
end Go.AL
namespace Go.AL
open Go
set_option linter.unusedSectionVars false
variable [Inhabited Glob] [Inhabited NoLend]
/-- A slice that grows by elements that own their memory. -/
def ownG (X : List (List DV)) (us : List Nat) (own : Own) (n nt : Nat) : Prop := ownLL X us ∧ (∀ t ∈ us, n ≤ t ∧ t < nt) ∧ ownS own n nt (X = []) ∧ (∀ t ∈ tkOf own, t ∉ us) ∧ n ≤ nt
end Go.AL

namespace Go.AL
open Go
set_option linter.unusedSectionVars false
variable [Inhabited Glob] [Inhabited NoLend]
set_option linter.unusedSimpArgs false
set_option linter.unusedVariables false
section
variable {P : Program} {n : Nat} {Q : Exit → Act → World → Prop} {env : List (Nat × Value)} {all : Array Oper} {rest : List Oper} {y : TypeId} {p : String} {f : Array Edge} {x x2 : Operand} {w0 : World} {F bs : List Nat} {b : Nat} {pre cs post : List DV}
end
end Go.AL

namespace Go.AL
open Go
set_option linter.unusedSectionVars false
variable [Inhabited Glob] [Inhabited NoLend]
set_option linter.unusedSimpArgs false
set_option linter.unusedVariables false
/-! ### What is left of a region, told by states: calls whose arguments keep their owners -/
def Sem (P : Program) (E : Ent) (all : Array Oper) (l : List Oper) (Q : Exit → AS → Prop) (s : AS) : Prop :=
  (l.all fun o => o.dst.all fun d => decide (d < E.n)) = true → ∀ (a : Act) (w : World), Sim E s a w → wpList P all (fun e a' w' => ∃ s', Q e s' ∧ Sim E s' a' w') l a w
section
variable {P : Program} {E : Ent} {all : Array Oper} {Q : Exit → AS → Prop} {s : AS} {rest l : List Oper} {dst : Option Nat} {ty : TypeId} {pos : String} {after : Array Edge}
end
end Go.AL

namespace Go.AL
open Go
set_option linter.unusedSectionVars false
variable [Inhabited Glob] [Inhabited NoLend]
set_option linter.unusedSimpArgs false
set_option linter.unusedVariables false
/-! ### A body that begins with pinned elements -/
/-- A number, a truth, a text, or a value that is old. -/
def oldD (I0 : IH) : DV → Prop
  | .pin c v => RepD I0 (fun _ => none) c v
  | .sl _ _ _ => False
  | _ => True
def oldL (I0 : IH) : List DV → Prop
  | [] => True
  | c :: cs => oldD I0 c ∧ oldL I0 cs
def oldLL (I0 : IH) : List (List DV) → Prop
  | [] => True
  | x :: xs => oldL I0 x ∧ oldLL I0 xs
mutual
theorem DV.er_er : ∀ c : DV, c.er.er = c.er
  | .int _ _ => rfl
  | .bool _ => rfl
  | .str _ => rfl
  | .sl sz xs o => by simp only [DV.er, erLL_erLL xs]
  | .pin c v => by simp only [DV.er]; exact DV.er_er c
theorem erLL_erLL : ∀ xs : List (List DV), erLL (erLL xs) = erLL xs
  | [] => rfl
  | x :: xs => by simp only [erLL, erL_erL x, erLL_erLL xs]
theorem erL_erL : ∀ xs : List DV, erL (erL xs) = erL xs
  | [] => rfl
  | x :: xs => by simp only [erL, DV.er_er x, erL_erL xs]
end
def pinLL (vals : Nat → Value) (sz : Nat) : Nat → List (List DV) → List (List DV)
  | _, [] => []
  | i, x :: xs => pnL (fun j => vals (i * sz + j)) 0 x :: pinLL vals sz (i + 1) xs
/-! ### A call that takes an element out of a slice in place -/
/-- What slices.Delete(s, i, i+1) does to memory. -/
def DelF (P : Program) (g : FuncId) (sz : Nat) : Prop :=
  CallOK P g ∧ ∀ (w : World) (b n cap i : Nat) (arr : Array Value) (T : TypeId), w.heap[b]? = some (.cells arr T (0, 0)) → arr.size = cap * sz → i < n → n ≤ cap → cap ≤ 9223372036854775807 → (∀ (j : Nat) v, j < n * sz → arr[j]? = some v → v.oneCell' = true) →
    Calls P g [Value.slice (some ⟨b, 0, none⟩) n cap, Value.int .i64 i, Value.int .i64 ((i : Int) + 1)].toArray w fun e w' => e = .returned (.slice (some ⟨b, 0, none⟩) (n - 1) cap) ∧ (∃ arr', w'.heap[b]? = some (.cells arr' T (0, 0)) ∧ arr'.size = arr.size ∧ ∀ j, j < (n - 1) * sz → arr'[j]? = if j < i * sz then arr[j]? else arr[j + sz]?) ∧ FrameW [b] w w'
end Go.AL

namespace Go.AL
open Go
set_option linter.unusedSectionVars false
variable [Inhabited Glob] [Inhabited NoLend]
set_option linter.unusedSimpArgs false
set_option linter.unusedVariables false
/-! ### A block that its token's bearer writes anew -/
def redoI (I : IH) (b e : Nat) (arr : Array Value) : IH := fun b' o => if b' = b then (if o < e then arr[o]? else none) else I b' o
/-! ### From states to known values, and back -/
section
variable {P : Program} {n : Nat} {Q : Exit → Act → World → Prop} {env : List (Nat × Value)} {all : Array Oper} {rest : List Oper} {y : TypeId} {p : String} {f : Array Edge} {x x2 : Operand} {w0 : World}
end
theorem RepL.set {I : IH} {τ : TH} {cs : List DV} {vs : List Value} {k : Nat} {c : DV} {v : Value} (h : RepL I τ cs vs) (hc : RepD I τ c v) : RepL I τ (cs.set k c) (vs.set k v) := by
  refine ⟨by simpa using h.1, fun i c' v' hc' hv' => ?_⟩
  rw [List.getElem?_set] at hc' hv'
  by_cases e : k = i
  · subst e
    by_cases hl : k < cs.length
    · have hl2 : k < vs.length := by rw [← h.1]; exact hl
      simp [hl] at hc'
      simp [hl2] at hv'
      subst hc'; subst hv'; exact hc
    · simp [hl] at hc'
  · simp only [if_neg e] at hc' hv'
    exact h.2 i c' v' hc' hv'
end Go.AL

namespace Go.AL
open Go
set_option linter.unusedSectionVars false
variable [Inhabited Glob] [Inhabited NoLend]
set_option linter.unusedSimpArgs false
set_option linter.unusedVariables false
/-! ### Slices inside a slice that owns its memory -/
def scA : AV → Bool
  | .d c => isSc c
  | _ => false
section
variable {P : Program} {E : Ent} {all : Array Oper} {Q : Exit → AS → Prop} {s : AS} {rest : List Oper}
end
end Go.AL

namespace Go.AL
open Go
set_option linter.unusedSectionVars false
variable [Inhabited Glob] [Inhabited NoLend]
set_option linter.unusedSimpArgs false
set_option linter.unusedVariables false
/-! ### Is a slice nil? -/
section
variable {P : Program} {E : Ent} {all : Array Oper} {Q : Exit → AS → Prop} {s : AS} {rest : List Oper} {dst : Option Nat} {ty : TypeId} {pos : String} {after : Array Edge}
end
end Go.AL

namespace Go.AL
open Go
set_option linter.unusedSectionVars false
variable [Inhabited Glob] [Inhabited NoLend]
set_option linter.unusedSimpArgs false
set_option linter.unusedVariables false
/-! ### A drawn region whose last operation waits for all others; facts of its temporaries -/
section
variable {P : Program} {Q : Exit → Act → World → Prop}
def exitN (X : Act → World → Prop) (Q : Exit → Act → World → Prop) : Exit → Act → World → Prop
  | .normal, a, w => X a w
  | e, a, w => Q e a w
theorem wp_exit {o : Oper} {a : Act} {w : World} {X K K' : Act → World → Prop} (h : ∀ a w, K a w → K' a w) (hh : o.wp P a w K (exitN X Q)) : o.wp P a w K' Q := by
  unfold Oper.wp at *
  generalize (execOp a.eval o).run P w = r at *
  cases r with
  | ok n w' =>
    cases n <;> simp only [Oper.upon] at hh ⊢ <;>
      first
        | exact h _ _ hh
        | exact Calls.mono hh (fun e w'' he => by cases e <;> first | exact h _ _ he | exact he)
        | exact Rows.mono hh (fun _ _ he => h _ _ he)
  | halt x w' => cases x <;> simp only [Oper.upon] at hh ⊢ <;> exact hh
variable {all : Array Oper} {st : Oper}
/-- Edges lead back. -/
def backB (all : Array Oper) : Prop := ∀ (i : Nat) (o : Oper), all[i]? = some o → ∀ e ∈ o.after, Region.binds .any e = true → e.on < i
end
section
variable {P : Program} {E : Ent} {TT : Tab P} {T A : List Nat} {K : AS → Prop} {all : Array Oper}
def FactsAt (F : List (Nat × Nat × Value)) (listed : Array Bool) (a : Act) : Prop := ∀ f ∈ F, listed.getD f.1 false = true → a.tmps.getD f.2.1 undef = f.2.2
def BaseAt (B : List (Nat × Value)) (a : Act) : Prop := ∀ q ∈ B, a.tmps.getD q.1 undef = q.2
end
end Go.AL

namespace Go.AL
open Go
set_option linter.unusedSectionVars false
variable [Inhabited Glob] [Inhabited NoLend]
set_option linter.unusedSimpArgs false
set_option linter.unusedVariables false
/-! ### A store into a field of an element of an owned slice, at the end of a drawn region -/
section
variable {P : Program} {E : Ent} {all : Array Oper} {Q : Exit → AS → Prop} {s : AS}
end
/-! ### The checks on such a region -/
def dstIs (d : Nat) : Option Oper → Bool
  | some o => match o.dst with | some x => Nat.beq x d | none => false
  | none => false
def uniqB (pre : List Oper) (k d : Nat) : Bool := (List.range pre.length).all fun j => Nat.beq j k || !dstIs d pre[j]?
def freeB (pre : List Oper) (d : Nat) : Bool := (List.range pre.length).all fun j => !dstIs d pre[j]?
def grdB (pre : List Oper) : Bool := pre.all fun o => match o.guard with | none => true | some (j, _) => Nat.blt j pre.length
def depA (all : Array Oper) : Nat → Nat → Nat → Bool
  | 0, _, _ => false
  | fuel + 1, j, i => match all[j]? with
    | none => false
    | some o => o.after.toList.any fun e => Region.binds .any e && (Nat.beq e.on i || depA all fuel e.on i)
def edgeB (f : Array Edge) (k : Nat) : Bool := f.toList.any fun e => Region.binds .any e && Nat.beq e.on k
def lastB (pre : List Oper) (st : Oper) : Bool := grdB pre && (st.after.toList.all fun e => !Region.binds .any e || Nat.blt e.on pre.length) && (List.range pre.length).all fun k => depA (pre ++ [st]).toArray 12 pre.length k
section
variable {P : Program} {E : Ent} {Q : Exit → AS → Prop} {s : AS}
/-- What must hold ahead of the last operation. -/
structure FinS (E : Ent) (Q : Exit → AS → Prop) (sz i j t r rz : Nat) (xs : List (List DV)) (el : List DV) (L : List Nat) (s : AS) : Prop where
  ex : ∃ (c : DV) (us : List Nat) (kept : List (Nat × AV)), getE s.env r = .d (.sl sz xs (.tok t)) ∧ getE s.env rz = .d c ∧ ownLL (xs.set i (el.set j c)) us ∧ (∀ u ∈ us, u ∈ s.toks ∧ u ≠ t) ∧ t ∈ s.toks ∧ pickE s.env L = kept ∧ (kept.all fun p => scA p.2) = true ∧ Q .normal ⟨(r, .d (.sl sz (xs.set i (el.set j c)) (.tok s.nt))) :: kept, [], s.nt :: us, s.nt + 1⟩
end
end Go.AL

namespace Go.AL
open Go
set_option linter.unusedSectionVars false
variable [Inhabited Glob] [Inhabited NoLend]
set_option linter.unusedSimpArgs false
set_option linter.unusedVariables false
section
variable {P : Program} {E : Ent} {Q : Exit → AS → Prop} {s : AS}
end
end Go.AL

namespace Go.AL
open Go
set_option linter.unusedSectionVars false
variable [Inhabited Glob] [Inhabited NoLend]
set_option linter.unusedSimpArgs false
set_option linter.unusedVariables false
/-! ### A function that rewrites a list of integers in place, at a list inside an owned list -/
def encN (n : Int) : List DV := [.int .i64 n]
/-- g puts f zs where zs stood. -/
def InI (P : Program) (g : FuncId) (f : List Int → List Int) : Prop :=
  CallOK P g ∧ (∀ zs, (f zs).length = zs.length) ∧ ∀ (w : World) (b cap : Nat) (zs : List Int) (arr : Array Value) (T : TypeId), w.heap[b]? = some (.cells arr T (0, 0)) → arr.size = cap → zs.length ≤ cap → zs.length < 4611686018427387904 → (∀ (j : Nat) z, zs[j]? = some z → arr[j]? = some (.int .i64 z)) →
    Calls P g [Value.slice (some ⟨b, 0, none⟩) zs.length cap].toArray w fun e w' => e = .returned (.tuple #[]) ∧ (∃ arr', w'.heap[b]? = some (.cells arr' T (0, 0)) ∧ arr'.size = arr.size ∧ ∀ (j : Nat) z, (f zs)[j]? = some z → arr'[j]? = some (.int .i64 z)) ∧ FrameW [b] w w'
section
variable {P : Program} {E : Ent} {all : Array Oper} {Q : Exit → AS → Prop} {s : AS} {rest : List Oper}
end
end Go.AL

namespace Go.AL
open Go
set_option linter.unusedSectionVars false
variable [Inhabited Glob] [Inhabited NoLend]
set_option linter.unusedSimpArgs false
set_option linter.unusedVariables false
/-! ### slices.DeleteFunc at a list inside an owned list, and its result put back there -/
/-- gd, with the closure F over a variable that holds gv, keeps of zs what is not gv. -/
def DelI (P : Program) (gd F : FuncId) : Prop :=
  CallOK P gd ∧ ∀ (w : World) (b cap bg : Nat) (gv : Int) (zs : List Int) (arr : Array Value) (T : TypeId), w.heap[b]? = some (.cells arr T (0, 0)) → arr.size = cap → zs.length ≤ cap → cap ≤ 9223372036854775807 → bg ≠ b → w.cell? ⟨bg, 0, none⟩ = some (.int .i64 gv) → (∀ (j : Nat) z, zs[j]? = some z → arr[j]? = some (.int .i64 z)) →
    Calls P gd [Value.slice (some ⟨b, 0, none⟩) zs.length cap, Value.func (.func F) #[] #[.pointer (some ⟨bg, 0, none⟩)]].toArray w fun e w' => e = .returned (.slice (some ⟨b, 0, none⟩) (zs.filter fun z => !(z == gv)).length cap) ∧ (∃ arr', w'.heap[b]? = some (.cells arr' T (0, 0)) ∧ arr'.size = arr.size ∧ ∀ (j : Nat) z, (zs.filter fun z => !(z == gv))[j]? = some z → arr'[j]? = some (.int .i64 z)) ∧ FrameW [b] w w'
section
variable {P : Program} {E : Ent} {all : Array Oper} {Q : Exit → AS → Prop} {s : AS} {rest : List Oper}
end
end Go.AL

namespace Go.AL
open Go Go.RowKit
set_option linter.unusedSimpArgs false
set_option linter.unusedVariables false
set_option linter.unusedSectionVars false
variable [Inhabited Glob]
/-! ### A function of the library, told by a contract on worlds -/
/-- What may be handed back: new cells may be known, old ones as before. -/
def NewI (I0 I : IH) (w w' : World) : Prop := (∀ b o v, I b o = some v → w'.cell? ⟨b, o, none⟩ = some v) ∧ ∀ b, b < w.heap.size → ∀ o, I b o = I0 b o
theorem NewI.old {I0 : IH} {w w' : World} (h : ∀ b o v, I0 b o = some v → w.cell? ⟨b, o, none⟩ = some v) (hb : Below w.heap.size w w') : NewI I0 I0 w w' :=
  ⟨fun b o v hv => by
    have h1 := h b o v hv
    have h2 := World.block_lt_of_cell? w ⟨b, o, none⟩ h1
    simpa [World.cell?, hb.block b h2] using h1, fun _ _ _ => rfl⟩
theorem ac_of_calls {P : Program} {g : FuncId} {args : List AV} {R : AV → Prop} (hc : CallOK P g)
    (h : ∀ (w : World) (S : Nat → Prop) (I : IH) (τ : TH) (ρ : Nat → Nat) (vs : List Value), (default : Glob).ok w S → (∀ b o v, I b o = some v → w.cell? ⟨b, o, none⟩ = some v) → RepAs I τ ρ 0 args vs →
      Calls P g vs.toArray w fun e w' => ∃ x r I', e = .returned x ∧ R r ∧ Below w.heap.size w w' ∧ NewI I I' w w' ∧ RepA I' τ ρ 0 r x) : GivesR P g args R :=
  ⟨hc, fun E vs hk hS hA => by
    refine (h E.w0 E.gs E.I0 E.τ0 E.ρ0 vs E.gl hS.iok hA).mono fun e w' ⟨x, r, I', he, hr, hb, hI, hx⟩ => ⟨x, he, r, [], [], E.nt0, I', E.τ0, E.ρ0, ⟨hr, rfl, rfl⟩, ?_, hx⟩
    have hk0 : E.k = 0 := hk
    exact {
      iok := hI.1
      obj := fun i o h => by simp at h
      objI := fun i h => by simp at h
      inj := fun i j h => by simp at h
      tok := fun t h => by simp at h
      tokd := fun t h => by simp at h
      os := hb.os
      tape := hb.tape
      output := hb.output
      size := hb.size
      blk := fun b h _ => hb.block b h
      ifr := fun b h o => hI.2 b h.1 o
      ifl := fun b _ o v h => by rw [hI.2 b (hS.i0 _ _ _ h) o]; exact h
      rho := fun _ _ => rfl
      fresh := fun i _ h => by simp at h
      tau := fun _ _ => rfl
      len := by simp [hk0]
      ntle := Nat.le_refl _
      i0 := hS.i0
      tn := hS.tn }⟩
theorem reps_one {I : IH} {τ : TH} {ρ : Nat → Nat} {n : Nat} {a : AV} {vs : List Value} (h : RepAs I τ ρ n [a] vs) : ∃ x, vs = [x] ∧ RepA I τ ρ n a x := by
  match vs, h with
  | [x], h => exact ⟨x, rfl, h.2 0 a x rfl rfl⟩
  | [], h => exact absurd h.1 (by simp)
  | _ :: _ :: _, h => exact absurd h.1 (by simp)
end Go.AL

namespace Go.AL
open Go
set_option linter.unusedSimpArgs false
set_option linter.unusedVariables false
set_option linter.unusedSectionVars false
variable [Inhabited Glob]
/-! ### A function that is lent who may append -/
def ACT (P : Program) (g : FuncId) (args : List AV) (objs : List AO) (lts : List Nat) (R : Nat → AV → List AO → List Nat → Nat → Prop) : Prop :=
  CallOK P g ∧ ∀ (E : Ent) (vs : List Value), E.k = objs.length → St E objs lts E.nt0 E.I0 E.τ0 E.ρ0 E.w0 → RepAs E.I0 E.τ0 E.ρ0 objs.length args vs →
    Calls P g vs.toArray E.w0 fun e w' => ∃ x, e = .returned x ∧ ∃ r objs' toks' nt' I' τ' ρ', R E.nt0 r objs' toks' nt' ∧ St E objs' toks' nt' I' τ' ρ' w' ∧ RepA I' τ' ρ' objs'.length r x
theorem callV_acT {P : Program} {E : Ent} {s : AS} {g : FuncId} {args args' : List AV} {K : AV → AS → Prop} {R : Nat → AV → List AO → List Nat → Nat → Prop} (is : List Nat) (lent : List AO) (lts : List Nat)
    (hac : ACT P g args' lent lts R) (hnl : (default : Glob).lend) (hlts : ∀ t ∈ lts, t ∈ s.toks) (hlent : lent.map some = is.map fun i => s.objs[i]?) (hnd : is.Nodup)
    (hargs : ∀ I τ ρ n vs, RepAs I τ ρ n args vs → RepAs I τ (fun i => ρ (is.getD i 0)) is.length args' vs)
    (hK : ∀ r os ts m, R s.nt r os ts m → K (r.rn is s.objs.length) { s with objs := putObjs s.objs is os, toks := ts ++ s.toks.filter (fun t => !lts.contains t), nt := m }) : CallV P E s g args K := by
  refine ⟨hac.1, fun a w I τ ρ vs h h2 hvs => ?_⟩
  have hll : lent.length = is.length := by simpa using congrArg List.length hlent
  have hget : ∀ (j i : Nat), is[j]? = some i → lent[j]? = s.objs[i]? ∧ i < s.objs.length := by
    intro j i hj
    have e : (lent.map some)[j]? = (is.map fun i => s.objs[i]?)[j]? := by rw [hlent]
    simp only [List.getElem?_map, hj, Option.map_some] at e
    cases hl : lent[j]? with
    | none => simp [hl] at e
    | some o =>
      simp only [hl, Option.map_some, Option.some.injEq] at e
      exact ⟨e, (List.getElem?_eq_some_iff.1 e.symm).1⟩
  have hgetD : ∀ (j i : Nat), is[j]? = some i → is.getD j 0 = i := fun j i hj => by simp [List.getD, hj]
  have hidx : ∀ (j : Nat), j < is.length → ∃ i, is[j]? = some i := fun j hj => ⟨_, List.getElem?_eq_getElem hj⟩
  have hinj : ∀ (j j' i : Nat), is[j]? = some i → is[j']? = some i → j = j' := by
    intro j j' i h1 h2
    have l1 := (List.getElem?_eq_some_iff.1 h1).1
    exact (List.getElem?_inj l1 hnd).1 (h1.trans h2.symm)
  let E' : Ent := { w0 := w, I0 := I, ρ0 := fun i => ρ (is.getD i 0), τ0 := τ, k := lent.length, nt0 := s.nt, n := 0, lb := fun b => ∃ t ∈ lts, ∃ e r, τ t = some (b, e, r), gs := E.gs, lbk := fun hn => absurd hnl hn, gl := Glob.loc _ _ _ _ (fun b hb => h.blk b (E.gb b hb).1 (E.gb b hb).2) E.gl, gb := fun b hb => ⟨Nat.lt_of_lt_of_le (E.gb b hb).1 h.size, fun ⟨t, ht, e, r, hv⟩ => ((h.tok t (hlts t ht)).2 b e r hv).1.elim (fun h1 => by have := (E.gb b hb).1; omega) (E.gb b hb).2.1, fun j hj => by
    obtain ⟨i, hi⟩ := hidx j (by rw [← hll]; exact hj)
    rw [hgetD j i hi]
    exact h.gsne hb (hget j i hi).2⟩ }
  have hSt : St E' lent lts E'.nt0 E'.I0 E'.τ0 E'.ρ0 E'.w0 := by
    refine ⟨h.iok, ?_, ?_, ?_, fun t ht => ?_, fun t ht u hu => h.tokd t (hlts t ht) u (hlts u hu), rfl, rfl, rfl, Nat.le_refl _, fun _ _ _ => rfl, fun _ _ _ => rfl, fun _ _ _ _ hv => hv, fun _ _ => rfl, ?_, fun _ _ => rfl, Nat.le_refl _, Nat.le_refl _, fun b o v hv => h.lt_of_I hv, h.tn⟩
    · intro j o ho
      obtain ⟨i, hi⟩ := hidx j (by rw [← hll]; exact (List.getElem?_eq_some_iff.1 ho).1)
      have := (hget j i hi).1
      rw [ho] at this
      show RepO I τ o (w.heap[ρ (is.getD j 0)]?)
      rw [hgetD j i hi]
      exact h.obj i o this.symm
    · intro j hj
      obtain ⟨i, hi⟩ := hidx j (by rw [← hll]; exact hj)
      show ρ (is.getD j 0) < w.heap.size ∧ ∀ off, I (ρ (is.getD j 0)) off = none
      rw [hgetD j i hi]
      exact h.objI i (hget j i hi).2
    · intro j j' hj hj' e
      obtain ⟨i, hi⟩ := hidx j (by rw [← hll]; exact hj)
      obtain ⟨i', hi'⟩ := hidx j' (by rw [← hll]; exact hj')
      simp only [E', hgetD j i hi, hgetD j' i' hi'] at e
      have := h.inj i i' (hget j i hi).2 (hget j' i' hi').2 e
      subst this
      exact hinj j j' i hi hi'
    · obtain ⟨g1, g2⟩ := h.tok t (hlts t ht)
      refine ⟨g1, fun b e r hb => ?_⟩
      obtain ⟨g3, g4, g5, g6⟩ := g2 b e r hb
      refine ⟨.inr ⟨t, ht, e, r, hb⟩, g4, g5, fun j hj => ?_⟩
      obtain ⟨i, hi⟩ := hidx j (by rw [← hll]; exact hj)
      show ρ (is.getD j 0) ≠ b
      rw [hgetD j i hi]
      exact g6 i (hget j i hi).2
    · intro i hk hi
      exact absurd hi (by simp only [E'] at hk; omega)
  have hargs' := hargs I τ ρ s.objs.length vs hvs
  rw [← hll] at hargs'
  have hlbO : ∀ b, E'.lb b → (E.w0.heap.size ≤ b ∨ E.lb b) ∧ (∀ i, i < s.objs.length → ρ i ≠ b) ∧ b < w.heap.size := fun b ⟨t, ht, e, r, hv⟩ => by
    obtain ⟨g3, ⟨cur, T, g4, _⟩, _, g6⟩ := (h.tok t (hlts t ht)).2 b e r hv
    exact ⟨g3, g6, (Array.getElem?_eq_some_iff.1 g4).1⟩
  refine (hac.2 E' vs rfl hSt hargs').mono fun e w' ⟨x, he, r, os, ts, m, I', τ', ρ', hR, hS, hA⟩ => ?_
  have hlen : is.length ≤ os.length := by rw [← hll]; exact hS.len
  let ρ'' : Nat → Nat := fun o => if o < s.objs.length then ρ o else ρ' (is.length + (o - s.objs.length))
  have hpl := putObjs_length is s.objs os hlen
  have hII : ∀ b, b < w.heap.size ∧ ¬E'.lb b → ∀ o, I' b o = I b o := hS.ifr
  have hext : Ext I τ I' τ' := ⟨fun b o v hv => by
    by_cases hl : E'.lb b
    · exact hS.ifl b hl o v hv
    · rw [hII b ⟨h.lt_of_I hv, hl⟩]; exact hv, fun t v hv => by
    have : t < s.nt := by
      rcases Nat.lt_or_ge t s.nt with hlt | hge
      · exact hlt
      · rw [h.tn t hge] at hv; cases hv
    rw [hS.tau t this]; exact hv⟩
  have hρold : ∀ o, o < s.objs.length → ρ'' o = ρ o := fun o ho => by simp [ρ'', ho]
  have hρnew : ∀ o, s.objs.length ≤ o → ρ'' o = ρ' (is.length + (o - s.objs.length)) := fun o ho => by simp [ρ'', Nat.not_lt.2 ho]
  have hfreshN : ∀ o, s.objs.length ≤ o → o < (putObjs s.objs is os).length → w.heap.size ≤ ρ'' o := by
    intro o ho hlt
    rw [hρnew o ho]
    exact hS.fresh _ (by show lent.length ≤ _; omega) (by rw [hpl] at hlt; omega)
  have hblkN : ∀ b, b < w.heap.size → ¬E'.lb b → (∀ (j i : Nat), is[j]? = some i → ρ i ≠ b) → w'.heap[b]? = w.heap[b]? := by
    intro b hb hnl hne
    refine hS.blk b hb ⟨hnl, fun j hj => ?_⟩
    obtain ⟨i, hi⟩ := hidx j (by rw [← hll]; exact hj)
    show ρ (is.getD j 0) ≠ b
    rw [hgetD j i hi]
    exact hne j i hi
  have hSt' : St E (putObjs s.objs is os) (ts ++ s.toks.filter (fun t => !lts.contains t)) m I' τ' ρ'' w' := by
    refine ⟨hS.iok, ?_, ?_, ?_, ?_, ?_, hS.os.trans h.os, hS.tape.trans h.tape, hS.output.trans h.output, Nat.le_trans h.size hS.size, ?_, ?_, fun b hb o v hv => hext.i _ _ _ (h.ifl b hb o v hv), ?_, ?_, ?_, ?_, ?_, h.i0, hS.tn⟩
    · intro i o ho
      by_cases hi : i < s.objs.length
      · rw [hρold i hi]
        by_cases him : i ∈ is
        · obtain ⟨j, hj⟩ := List.getElem?_of_mem him
          rw [putObjs_lent is s.objs os j i hlen hnd (fun i hi => by obtain ⟨j, hj⟩ := List.getElem?_of_mem hi; exact (hget j i hj).2) hj] at ho
          have hk : j < E'.k := by show j < lent.length; rw [hll]; exact (List.getElem?_eq_some_iff.1 hj).1
          have := hS.obj j o ho
          rw [hS.rho j hk] at this
          show RepO I' τ' o (w'.heap[ρ i]?)
          have e2 : E'.ρ0 j = ρ i := by show ρ (is.getD j 0) = ρ i; rw [hgetD j i hj]
          rwa [e2] at this
        · rw [putObjs_old is s.objs os i hlen hi him] at ho
          have hb := (h.objI i hi).1
          rw [hblkN (ρ i) hb (fun hl => (hlbO _ hl).2.1 i hi rfl) (fun j i' hj e => him (by
            have := h.inj i' i (hget j i' hj).2 hi e
            subst this
            exact List.mem_of_getElem? hj))]
          exact (h.obj i o ho).mono hext
      · rw [putObjs_new is s.objs os i hlen (by omega)] at ho
        rw [hρnew i (by omega)]
        exact hS.obj _ o ho
    · intro i hi
      by_cases hlt : i < s.objs.length
      · rw [hρold i hlt]
        have hb := (h.objI i hlt).1
        exact ⟨Nat.lt_of_lt_of_le hb hS.size, fun off => by rw [hII _ ⟨hb, fun hl => (hlbO _ hl).2.1 i hlt rfl⟩]; exact (h.objI i hlt).2 off⟩
      · rw [hρnew i (by omega)]
        exact hS.objI _ (by rw [hpl] at hi; omega)
    · intro i j hi hj e
      by_cases hi' : i < s.objs.length <;> by_cases hj' : j < s.objs.length
      · rw [hρold i hi', hρold j hj'] at e
        exact h.inj i j hi' hj' e
      · have h1 := hfreshN j (by omega) hj
        rw [← e, hρold i hi'] at h1
        have := (h.objI i hi').1
        omega
      · have h1 := hfreshN i (by omega) hi
        rw [e, hρold j hj'] at h1
        have := (h.objI j hj').1
        omega
      · rw [hρnew i (by omega), hρnew j (by omega)] at e
        have := hS.inj _ _ (by rw [hpl] at hi; omega) (by rw [hpl] at hj; omega) e
        omega
    · intro t ht
      rcases List.mem_append.1 ht with ht | ht
      · obtain ⟨k1, k2⟩ := hS.tok t ht
        refine ⟨k1, fun b e r hb => ?_⟩
        obtain ⟨k3, k4, k5, k6⟩ := k2 b e r hb
        refine ⟨k3.elim (fun k3 => .inl (Nat.le_trans h.size k3)) fun k3 => (hlbO _ k3).1, k4, k5, fun i hi => ?_⟩
        by_cases hlt : i < s.objs.length
        · rw [hρold i hlt]
          rcases k3 with k3 | k3
          · have := (h.objI i hlt).1
            have k3' : w.heap.size ≤ b := k3
            omega
          · exact (hlbO _ k3).2.1 i hlt
        · rw [hρnew i (by omega)]
          exact k6 _ (by rw [hpl] at hi; omega)
      · have htf : t ∈ s.toks ∧ t ∉ lts := by simpa using ht
        have ht := htf.1
        obtain ⟨k1, k2⟩ := h.tok t ht
        have hm : s.nt ≤ m := hS.ntle
        refine ⟨by omega, fun b e r hb => ?_⟩
        rw [hS.tau t k1] at hb
        obtain ⟨k3, ⟨cur, T, k4, k5⟩, k6, k7⟩ := k2 b e r hb
        have hlt := (Array.getElem?_eq_some_iff.1 k4).1
        have hnb : ¬E'.lb b := fun ⟨u, hu, e2, r2, hv⟩ => htf.2 (by rw [h.tokd t ht u (hlts u hu) _ _ _ _ _ _ hb hv rfl]; exact hu)
        refine ⟨k3, ⟨cur, T, by rw [hblkN b hlt hnb (fun j i hj => k7 i (hget j i hj).2)]; exact k4, k5⟩, fun o ho => by rw [hII b ⟨hlt, hnb⟩]; exact k6 o ho, fun i hi => ?_⟩
        by_cases hlt' : i < s.objs.length
        · rw [hρold i hlt']; exact k7 i hlt'
        · have := hfreshN i (by omega) hi
          omega
    · have cross : ∀ t ∈ ts, ∀ u ∈ s.toks.filter (fun t => !lts.contains t), ∀ b e r b' e' r', τ' t = some (b, e, r) → τ' u = some (b', e', r') → b = b' → False := by
        intro t ht u hu b e r b' e' r' hb hb' heq
        have huf : u ∈ s.toks ∧ u ∉ lts := by simpa using hu
        obtain ⟨k1, k2⟩ := h.tok u huf.1
        rw [hS.tau u k1] at hb'
        rcases ((hS.tok t ht).2 b e r hb).1 with k3 | ⟨u0, hu0, e2, r2, hv⟩
        · have k3' : w.heap.size ≤ b := k3
          obtain ⟨_, ⟨cur, T, k4, _⟩, _⟩ := k2 b' e' r' hb'
          have := (Array.getElem?_eq_some_iff.1 k4).1
          omega
        · exact huf.2 (by rw [h.tokd u huf.1 u0 (hlts u0 hu0) _ _ _ _ _ _ hb' hv heq.symm]; exact hu0)
      intro t ht u hu b e r b' e' r' hb hb' heq
      rcases List.mem_append.1 ht with ht | ht <;> rcases List.mem_append.1 hu with hu | hu
      · exact hS.tokd t ht u hu b e r b' e' r' hb hb' heq
      · exact (cross t ht u hu b e r b' e' r' hb hb' heq).elim
      · exact (cross u hu t ht b' e' r' b e r hb' hb heq.symm).elim
      · have ht1 : t ∈ s.toks := (List.mem_filter.1 ht).1
        have hu1 : u ∈ s.toks := (List.mem_filter.1 hu).1
        rw [hS.tau t (h.tok t ht1).1] at hb
        rw [hS.tau u (h.tok u hu1).1] at hb'
        exact h.tokd t ht1 u hu1 b e r b' e' r' hb hb' heq
    · intro b hb hk
      rw [hblkN b (by have := h.size; omega) (fun hl => (hlbO b hl).1.elim (fun h1 => by omega) hk.1) (fun j i hj e => ?_)]
      · exact h.blk b hb hk
      · have hilt := (hget j i hj).2
        by_cases hik : i < E.k
        · exact hk.2 i hik (by rw [← h.rho i hik]; exact e)
        · have := h.fresh i (by omega) hilt
          omega
    · intro b hb o
      rw [hII b ⟨by have := h.size; have := hb.1; omega, fun hl => (hlbO b hl).1.elim (fun h1 => by have := hb.1; omega) hb.2⟩]
      exact h.ifr b hb o
    · intro i hi
      have := h.len
      rw [hρold i (by omega)]
      exact h.rho i hi
    · intro i hk hi
      by_cases hlt : i < s.objs.length
      · rw [hρold i hlt]; exact h.fresh i hk hlt
      · exact Nat.le_trans h.size (hfreshN i (by omega) hi)
    · intro t ht
      have h1 := h.ntle
      rw [hS.tau t (by show t < s.nt; omega)]
      exact h.tau t ht
    · have := h.len; rw [hpl]; omega
    · have h1 := h.ntle; have h2 : s.nt ≤ m := hS.ntle; omega
  subst he
  refine ⟨x, rfl, _, _, hK r os ts m hR, rfl, I', τ', ρ'', hSt', fun t => ?_, ?_⟩
  · exact (h2 t).mono ⟨hext, by rw [hpl]; omega, fun o ho => hρold o ho⟩
  · refine hA.rn (fun o ho => ?_) (fun o ho => ?_)
    · unfold rnO
      split
      · rename_i hlt
        obtain ⟨i, hi⟩ := hidx o hlt
        rw [hgetD o i hi, hpl]
        have := (hget o i hi).2
        omega
      · rw [hpl]; omega
    · unfold rnO
      split
      · rename_i hlt
        obtain ⟨i, hi⟩ := hidx o hlt
        rw [hgetD o i hi, hρold i (hget o i hi).2]
        rw [hS.rho o (by show o < lent.length; omega)]
        show ρ i = ρ (is.getD o 0)
        rw [hgetD o i hi]
      · rw [hρnew _ (by omega)]
        congr 1
        omega

theorem act_of_body {P : Program} (TT : Tab P) {g : FuncId} {fn : Func} {c : Code} {args : List AV} {objs : List AO} {lts : List Nat} {R : Nat → AV → List AO → List Nat → Nat → Prop}
    (hcall : CallOK P g) (hf : P.funcs[g]? = some fn) (hb : fn.body = some c) (hn : args.length ≤ fn.ntmps) (hok : codeOK fn.ntmps c = true)
    (h : ∀ E : Ent, E.k = objs.length → AWp P E c (RetQ TT fn.results.toList objs.length E.nt0 R) ⟨env0 0 args, objs, lts, E.nt0⟩) : ACT P g args objs lts R := by
  refine ⟨hcall, fun E0 vs hk hS hA => ?_⟩
  let E : Ent := { E0 with n := fn.ntmps }
  have hS' : St E objs lts E.nt0 E.I0 E.τ0 E.ρ0 E.w0 := ⟨hS.iok, hS.obj, hS.objI, hS.inj, hS.tok, hS.tokd, hS.os, hS.tape, hS.output, hS.size, hS.blk, hS.ifr, hS.ifl, hS.rho, hS.fresh, hS.tau, hS.len, hS.ntle, hS.i0, hS.tn⟩
  have hvl : vs.length = args.length := hA.1.symm
  refine calls_of_wp hf hb ?_
  refine Go.wp_mono (h E hk hok _ E0.w0 ⟨⟨E.I0, E.τ0, E.ρ0, hS', fun t => ?_⟩, ?_, rfl⟩) fun e a' w' ⟨s', hq, hs'⟩ => ?_
  · rw [env0_get]
    simp only [Nat.not_lt_zero, if_false, Nat.sub_zero]
    cases ha : args[t]? with
    | none => exact .unk _
    | some v =>
      have hlt := (List.getElem?_eq_some_iff.1 ha).1
      have hx : vs[t]? = some (vs[t]'(by omega)) := List.getElem?_eq_getElem _
      have := hA.2 t v _ ha hx
      simp only [Option.getD_some]
      have e : (vs.toArray ++ Array.replicate (fn.ntmps - vs.toArray.size) undef).getD t undef = vs[t]'(by omega) := by
        simp only [Array.getD_eq_getD_getElem?]
        rw [Array.getElem?_append_left (by simp; omega)]
        simp [hx]
      rw [e]
      exact this
  · simp only [Array.size_append, List.size_toArray, Array.size_replicate]
    show vs.length + (fn.ntmps - vs.length) = fn.ntmps
    omega
  · have fin : ∀ e, (e = Exit.normal ∨ e = Exit.ret) → RetQ TT fn.results.toList objs.length E.nt0 R e s' → bodyPost P fn (fun e w' => ∃ x, e = .returned x ∧ ∃ r objs' toks' nt' I' τ' ρ', R E0.nt0 r objs' toks' nt' ∧ St E0 objs' toks' nt' I' τ' ρ' w' ∧ RepA I' τ' ρ' objs'.length r x) e a' w' := by
      intro e he hq
      have hq' : ∃ vs m toks, resList TT s' fn.results.toList = some vs ∧ objs.length ≤ m ∧ (∀ t ∈ toks, t ∈ s'.toks) ∧ (resV vs).scop (s'.objs.take m).length = true ∧ R E.nt0 (resV vs) (s'.objs.take m) toks s'.nt := by
        rcases he with rfl | rfl <;> exact hq
      obtain ⟨us, m, toks, q1, q2, q3, q4, q5⟩ := hq'
      obtain ⟨I, τ, ρ, h1, h2⟩ := hs'.ex
      obtain ⟨xs, r1, r2, r3⟩ := run_results TT h1 h2 fn.results.toList us q1
      have hres : (results fn a'.tmps).run P w' = .ok (if hh : xs.toArray.size = 1 then xs.toArray[0] else .tuple xs.toArray) w' := by
        unfold results
        rw [Sem.run_bind, Array.mapM_eq_mapM_toList, Sem.run_map]
        exact congrArg (fun (r : Result (List Value)) => ((r.andThen fun a w' => Result.ok a.toArray w').andThen fun a w' => Sem.run P (pure (if h : a.size = 1 then a[0] else Value.tuple a)) w')) r1
      have hval : RepA I τ ρ s'.objs.length (resV us) (if hh : xs.toArray.size = 1 then xs.toArray[0] else .tuple xs.toArray) := by
        split
        · rename_i hh
          simp only [List.size_toArray] at hh
          obtain ⟨x, rfl⟩ := List.length_eq_one_iff.1 hh
          rw [hh] at r2
          obtain ⟨u, rfl⟩ := List.length_eq_one_iff.1 r2
          exact r3 0 u x rfl rfl
        · rename_i hh
          simp only [List.size_toArray] at hh
          have : resV us = .tup us := by
            match us, r2 with
            | [], _ => rfl
            | [u], r2 => simp at r2; exact absurd r2.symm hh
            | _ :: _ :: _, _ => rfl
          rw [this]
          exact .tup us xs r2 r3
      have hk' : E.k ≤ m := by show E0.k ≤ m; omega
      have hS2 := (h1.trim m hk').sub toks q3
      have hS3 : St E0 (s'.objs.take m) toks s'.nt I τ ρ w' := ⟨hS2.iok, hS2.obj, hS2.objI, hS2.inj, hS2.tok, hS2.tokd, hS2.os, hS2.tape, hS2.output, hS2.size, hS2.blk, hS2.ifr, hS2.ifl, hS2.rho, hS2.fresh, hS2.tau, hS2.len, hS2.ntle, hS2.i0, hS2.tn⟩
      have : bodyPost P fn (fun e w' => ∃ x, e = .returned x ∧ ∃ r objs' toks' nt' I' τ' ρ', R E0.nt0 r objs' toks' nt' ∧ St E0 objs' toks' nt' I' τ' ρ' w' ∧ RepA I' τ' ρ' objs'.length r x) .ret a' w' :=
        ⟨hs'.df, _, hres, _, rfl, _, _, _, _, I, τ, ρ, q5, hS3, hval.scop q4⟩
      rcases he with rfl | rfl <;> exact this
    cases e with
    | normal => exact fin .normal (.inl rfl) hq
    | ret => exact fin .ret (.inr rfl) hq
    | _ => exact hq.elim
theorem awp_tokLt {P : Program} {E : Ent} {Q : Exit → AS → Prop} {s : AS} {c : Code} (h : (∀ t ∈ s.toks, t < s.nt) → AWp P E c Q s) : AWp P E c Q s := fun hok a w hs => by
  obtain ⟨⟨I, τ, ρ, h1, _⟩, _, _⟩ := id hs
  exact h (fun t ht => (h1.tok t ht).1) hok a w hs
section
variable {P : Program} (TT : Tab P) (E : Ent) {all : List (Option Nat)} {g : FuncId} {args : List AV} {dst : Option Nat} {rest : List Oper} {s : AS} {K : AS → Prop}
theorem callK_acT {lent : List AO} {args' : List AV} {R : Nat → AV → List AO → List Nat → Nat → Prop} (is lts : List Nat) (hac : ACT P g args' lent lts R) (hnl : (default : Glob).lend) (hlts : ∀ t ∈ lts, t ∈ s.toks)
    (ha : args'.map (AV.rn is s.objs.length) = args) (hsc : (args'.all fun v => v.scopedT is.length) = true) (hlent : lent.map some = is.map fun i => s.objs[i]?) (hnd : is.Nodup)
    (hK : ∀ r os ts m, R s.nt r os ts m → rvc TT E all rest (({ s with objs := putObjs s.objs is os, toks := ts ++ s.toks.filter (fun t => !lts.contains t), nt := m } : AS).put dst (r.rn is s.objs.length)) K) : callK TT E all g args dst rest s K :=
  callV_acT is lent lts hac hnl hlts hlent hnd (fun _ _ _ _ _ h => h.unrn hsc ha) hK
end
end Go.AL

namespace Go.AL
open Go Go.RowKit Go.ChangeShapes Go.WideShapes Go.ChangeAt
set_option linter.unusedSectionVars false
variable [Inhabited Glob]
set_option linter.unusedSimpArgs false
set_option linter.unusedVariables false

/-! ### From a law's contract to its row: listed variables, the world's shape -/
/-- The cells that a datum without addresses lays. -/
def flatD : Nat → DataW Unit → List Value
  | 0, _ => []
  | n + 1, d => match d with
    | .agg ps => ps.flatMap (flatD n)
    | .lit (.int k z) => [.int k z]
    | .lit (.bool b) => [.bool b]
    | .lit (.string s) => [.string ⟨s.toArray⟩]
    | _ => []
def layV (P : Program) : List (String × DataW Unit) → Array Obj → Array Obj
  | [], h => h
  | (v, d) :: l, h => layV P l (match P.globalNamed v with
    | some g => h.modify g fun
      | .cells _ t fr => .cells (flatD 4 d).toArray t fr
      | o => o
    | none => h)
end Go.AL

namespace Go.AL
open Go
set_option linter.unusedSectionVars false
variable [Inhabited Glob] [Inhabited NoLend]
set_option linter.unusedSimpArgs false
set_option linter.unusedVariables false
/-! ### A store into the last element of an owned slice (out[len(out)-1] = ..), in a drawn region -/
section
variable {P : Program} {E : Ent} {Q : Exit → AS → Prop} {s : AS}
end
/-! ### A literal slice that may be written -/
section
variable {P : Program} {E : Ent} {s : AS} {ty : TypeId} {K : AV → AS → Prop}
end
section
variable {P : Program} {E : Ent} {all : Array Oper} {Q : Exit → AS → Prop} {s : AS} {rest : List Oper} {dst : Option Nat} {ty : TypeId} {pos : String} {after : Array Edge}
end
end Go.AL

namespace Go.AL
open Go
/-! ### What a row's listed variables hold -/
end Go.AL

namespace Go.AL
open Go Go.RowKit
set_option linter.unusedSimpArgs false
set_option linter.unusedVariables false
set_option linter.unusedSectionVars false
variable [Inhabited Glob]
/-! ### A map that a variable of the program's own holds: the load, what lies between, the look-up -/
/-- As 'Sem'; a slot holds a value. -/
def SemV (P : Program) (E : Ent) (all : Array Oper) (l : List Oper) (Q : Exit → AS → Prop) (t : Nat) (v : Value) (s : AS) : Prop :=
  (l.all fun o => o.dst.all fun d => decide (d < E.n)) = true → ∀ (a : Act) (w : World), Sim E s a w → a.tmps.getD t undef = v → wpList P all (fun e a' w' => ∃ s', Q e s' ∧ Sim E s' a' w') l a w
section
variable {P : Program} {E : Ent} {all : Array Oper} {Q : Exit → AS → Prop} {s : AS} {rest l : List Oper} {ty : TypeId} {pos : String} {after : Array Edge}
/-- What a look-up in the map at a variable gives, whatever else the world holds. -/
def LookG (P : Program) (g T : Nat) (key : DV) (r : DV) : Prop := ∀ (w0 : World) (S : Nat → Prop), (default : Glob).ok w0 S → ∃ m, ∀ w : World, (∀ b, S b → w.heap[b]? = w0.heap[b]?) → w.cell? ⟨g, 0, none⟩ = some m ∧
  ∀ I τ v, RepD I τ key v → ∃ x, (Instr.lookup T m v false).run P w = .ok x w ∧ ∀ I' τ', RepD I' τ' r x
end
end Go.AL

namespace Go.AL
open Go Go.RowKit Go.ChangeShapes Go.WideShapes Go.ChangeAt
set_option linter.unusedSectionVars false
variable [Inhabited Glob]
set_option linter.unusedSimpArgs false
set_option linter.unusedVariables false
end Go.AL

namespace Go.AL
open Go Go.RowKit
set_option linter.unusedSectionVars false
variable [Inhabited Glob]
set_option linter.unusedSimpArgs false
set_option linter.unusedVariables false
/-! ### A function of the library that hands back an empty slice with room of its own -/
end Go.AL

namespace Go.AL
open Go Go.RowKit
set_option linter.unusedSectionVars false
variable [Inhabited Glob]
set_option linter.unusedSimpArgs false
set_option linter.unusedVariables false
/-! ### A function that was lent no rows -/
def ACN (P : Program) (g : FuncId) (args : List AV) (objs : List AO) (R : Nat → AV → List AO → List Nat → Nat → Prop) : Prop :=
  CallOK P g ∧ ∀ (E : Ent) (vs : List Value), (∀ b, ¬E.lb b) → E.k = objs.length → St E objs [] E.nt0 E.I0 E.τ0 E.ρ0 E.w0 → RepAs E.I0 E.τ0 E.ρ0 objs.length args vs →
    Calls P g vs.toArray E.w0 fun e w' => ∃ x, e = .returned x ∧ ∃ r objs' toks' nt' I' τ' ρ', R E.nt0 r objs' toks' nt' ∧ St E objs' toks' nt' I' τ' ρ' w' ∧ RepA I' τ' ρ' objs'.length r x
theorem callV_acN {P : Program} {E : Ent} {s : AS} {g : FuncId} {args args' : List AV} {K : AV → AS → Prop} {R : Nat → AV → List AO → List Nat → Nat → Prop} (is : List Nat) (lent : List AO)
    (hac : ACN P g args' lent R) (hlent : lent.map some = is.map fun i => s.objs[i]?) (hnd : is.Nodup)
    (hargs : ∀ I τ ρ n vs, RepAs I τ ρ n args vs → RepAs I τ (fun i => ρ (is.getD i 0)) is.length args' vs)
    (hK : ∀ r os ts m, R s.nt r os ts m → K (r.rn is s.objs.length) { s with objs := putObjs s.objs is os, toks := ts ++ s.toks, nt := m }) : CallV P E s g args K := by
  refine ⟨hac.1, fun a w I τ ρ vs h h2 hvs => ?_⟩
  have hll : lent.length = is.length := by simpa using congrArg List.length hlent
  have hget : ∀ (j i : Nat), is[j]? = some i → lent[j]? = s.objs[i]? ∧ i < s.objs.length := by
    intro j i hj
    have e : (lent.map some)[j]? = (is.map fun i => s.objs[i]?)[j]? := by rw [hlent]
    simp only [List.getElem?_map, hj, Option.map_some] at e
    cases hl : lent[j]? with
    | none => simp [hl] at e
    | some o =>
      simp only [hl, Option.map_some, Option.some.injEq] at e
      exact ⟨e, (List.getElem?_eq_some_iff.1 e.symm).1⟩
  have hgetD : ∀ (j i : Nat), is[j]? = some i → is.getD j 0 = i := fun j i hj => by simp [List.getD, hj]
  have hidx : ∀ (j : Nat), j < is.length → ∃ i, is[j]? = some i := fun j hj => ⟨_, List.getElem?_eq_getElem hj⟩
  have hinj : ∀ (j j' i : Nat), is[j]? = some i → is[j']? = some i → j = j' := by
    intro j j' i h1 h2
    have l1 := (List.getElem?_eq_some_iff.1 h1).1
    exact (List.getElem?_inj l1 hnd).1 (h1.trans h2.symm)
  let E' : Ent := { w0 := w, I0 := I, ρ0 := fun i => ρ (is.getD i 0), τ0 := τ, k := lent.length, nt0 := s.nt, n := 0, lb := fun _ => False, gs := E.gs, lbk := fun _ _ h => h, gl := Glob.loc _ _ _ _ (fun b hb => h.blk b (E.gb b hb).1 (E.gb b hb).2) E.gl, gb := fun b hb => ⟨Nat.lt_of_lt_of_le (E.gb b hb).1 h.size, fun h => h, fun j hj => by
    obtain ⟨i, hi⟩ := hidx j (by rw [← hll]; exact hj)
    rw [hgetD j i hi]
    exact h.gsne hb (hget j i hi).2⟩ }
  have hSt : St E' lent [] E'.nt0 E'.I0 E'.τ0 E'.ρ0 E'.w0 := by
    refine ⟨h.iok, ?_, ?_, ?_, fun t ht => by simp at ht, fun t ht => by simp at ht, rfl, rfl, rfl, Nat.le_refl _, fun _ _ _ => rfl, fun _ _ _ => rfl, fun _ h => h.elim, fun _ _ => rfl, ?_, fun _ _ => rfl, Nat.le_refl _, Nat.le_refl _, fun b o v hv => h.lt_of_I hv, h.tn⟩
    · intro j o ho
      obtain ⟨i, hi⟩ := hidx j (by rw [← hll]; exact (List.getElem?_eq_some_iff.1 ho).1)
      have := (hget j i hi).1
      rw [ho] at this
      show RepO I τ o (w.heap[ρ (is.getD j 0)]?)
      rw [hgetD j i hi]
      exact h.obj i o this.symm
    · intro j hj
      obtain ⟨i, hi⟩ := hidx j (by rw [← hll]; exact hj)
      show ρ (is.getD j 0) < w.heap.size ∧ ∀ off, I (ρ (is.getD j 0)) off = none
      rw [hgetD j i hi]
      exact h.objI i (hget j i hi).2
    · intro j j' hj hj' e
      obtain ⟨i, hi⟩ := hidx j (by rw [← hll]; exact hj)
      obtain ⟨i', hi'⟩ := hidx j' (by rw [← hll]; exact hj')
      simp only [E', hgetD j i hi, hgetD j' i' hi'] at e
      have := h.inj i i' (hget j i hi).2 (hget j' i' hi').2 e
      subst this
      exact hinj j j' i hi hi'
    · intro i hk hi
      exact absurd hi (by simp only [E'] at hk; omega)
  have hargs' := hargs I τ ρ s.objs.length vs hvs
  rw [← hll] at hargs'
  refine (hac.2 E' vs (fun _ h => h) rfl hSt hargs').mono fun e w' ⟨x, he, r, os, ts, m, I', τ', ρ', hR, hS, hA⟩ => ?_
  have hlen : is.length ≤ os.length := by rw [← hll]; exact hS.len
  let ρ'' : Nat → Nat := fun o => if o < s.objs.length then ρ o else ρ' (is.length + (o - s.objs.length))
  have hpl := putObjs_length is s.objs os hlen
  have hII : ∀ b, b < w.heap.size → ∀ o, I' b o = I b o := fun b hb => hS.ifr b ⟨hb, fun h => h⟩
  have hext : Ext I τ I' τ' := ⟨fun b o v hv => by rw [hII b (h.lt_of_I hv)]; exact hv, fun t v hv => by
    have : t < s.nt := by
      rcases Nat.lt_or_ge t s.nt with hlt | hge
      · exact hlt
      · rw [h.tn t hge] at hv; cases hv
    rw [hS.tau t this]; exact hv⟩
  have hρold : ∀ o, o < s.objs.length → ρ'' o = ρ o := fun o ho => by simp [ρ'', ho]
  have hρnew : ∀ o, s.objs.length ≤ o → ρ'' o = ρ' (is.length + (o - s.objs.length)) := fun o ho => by simp [ρ'', Nat.not_lt.2 ho]
  have hfreshN : ∀ o, s.objs.length ≤ o → o < (putObjs s.objs is os).length → w.heap.size ≤ ρ'' o := by
    intro o ho hlt
    rw [hρnew o ho]
    exact hS.fresh _ (by show lent.length ≤ _; omega) (by rw [hpl] at hlt; omega)
  have hblkN : ∀ b, b < w.heap.size → (∀ (j i : Nat), is[j]? = some i → ρ i ≠ b) → w'.heap[b]? = w.heap[b]? := by
    intro b hb hne
    refine hS.blk b hb ⟨fun h => h, fun j hj => ?_⟩
    obtain ⟨i, hi⟩ := hidx j (by rw [← hll]; exact hj)
    show ρ (is.getD j 0) ≠ b
    rw [hgetD j i hi]
    exact hne j i hi
  have hSt' : St E (putObjs s.objs is os) (ts ++ s.toks) m I' τ' ρ'' w' := by
    refine ⟨hS.iok, ?_, ?_, ?_, ?_, ?_, hS.os.trans h.os, hS.tape.trans h.tape, hS.output.trans h.output, Nat.le_trans h.size hS.size, ?_, ?_, fun b hb o v hv => hext.i _ _ _ (h.ifl b hb o v hv), ?_, ?_, ?_, ?_, ?_, h.i0, hS.tn⟩
    · intro i o ho
      by_cases hi : i < s.objs.length
      · rw [hρold i hi]
        by_cases him : i ∈ is
        · obtain ⟨j, hj⟩ := List.getElem?_of_mem him
          rw [putObjs_lent is s.objs os j i hlen hnd (fun i hi => by obtain ⟨j, hj⟩ := List.getElem?_of_mem hi; exact (hget j i hj).2) hj] at ho
          have hk : j < E'.k := by show j < lent.length; rw [hll]; exact (List.getElem?_eq_some_iff.1 hj).1
          have := hS.obj j o ho
          rw [hS.rho j hk] at this
          show RepO I' τ' o (w'.heap[ρ i]?)
          have e2 : E'.ρ0 j = ρ i := by show ρ (is.getD j 0) = ρ i; rw [hgetD j i hj]
          rwa [e2] at this
        · rw [putObjs_old is s.objs os i hlen hi him] at ho
          have hb := (h.objI i hi).1
          rw [hblkN (ρ i) hb (fun j i' hj e => him (by
            have := h.inj i' i (hget j i' hj).2 hi e
            subst this
            exact List.mem_of_getElem? hj))]
          exact (h.obj i o ho).mono hext
      · rw [putObjs_new is s.objs os i hlen (by omega)] at ho
        rw [hρnew i (by omega)]
        exact hS.obj _ o ho
    · intro i hi
      by_cases hlt : i < s.objs.length
      · rw [hρold i hlt]
        have hb := (h.objI i hlt).1
        exact ⟨Nat.lt_of_lt_of_le hb hS.size, fun off => by rw [hII _ hb]; exact (h.objI i hlt).2 off⟩
      · rw [hρnew i (by omega)]
        exact hS.objI _ (by rw [hpl] at hi; omega)
    · intro i j hi hj e
      by_cases hi' : i < s.objs.length <;> by_cases hj' : j < s.objs.length
      · rw [hρold i hi', hρold j hj'] at e
        exact h.inj i j hi' hj' e
      · have h1 := hfreshN j (by omega) hj
        rw [← e, hρold i hi'] at h1
        have := (h.objI i hi').1
        omega
      · have h1 := hfreshN i (by omega) hi
        rw [e, hρold j hj'] at h1
        have := (h.objI j hj').1
        omega
      · rw [hρnew i (by omega), hρnew j (by omega)] at e
        have := hS.inj _ _ (by rw [hpl] at hi; omega) (by rw [hpl] at hj; omega) e
        omega
    · intro t ht
      rcases List.mem_append.1 ht with ht | ht
      · obtain ⟨k1, k2⟩ := hS.tok t ht
        refine ⟨k1, fun b e r hb => ?_⟩
        obtain ⟨k3, k4, k5, k6⟩ := k2 b e r hb
        have k3' : w.heap.size ≤ b := k3.elim (fun h => h) fun h => h.elim
        refine ⟨.inl (Nat.le_trans h.size k3'), k4, k5, fun i hi => ?_⟩
        by_cases hlt : i < s.objs.length
        · rw [hρold i hlt]
          have := (h.objI i hlt).1
          omega
        · rw [hρnew i (by omega)]
          exact k6 _ (by rw [hpl] at hi; omega)
      · obtain ⟨k1, k2⟩ := h.tok t ht
        have hm : s.nt ≤ m := hS.ntle
        refine ⟨by omega, fun b e r hb => ?_⟩
        rw [hS.tau t k1] at hb
        obtain ⟨k3, ⟨cur, T, k4, k5⟩, k6, k7⟩ := k2 b e r hb
        have hlt := (Array.getElem?_eq_some_iff.1 k4).1
        refine ⟨k3, ⟨cur, T, by rw [hblkN b hlt (fun j i hj => k7 i (hget j i hj).2)]; exact k4, k5⟩, fun o ho => by rw [hII b hlt]; exact k6 o ho, fun i hi => ?_⟩
        by_cases hlt' : i < s.objs.length
        · rw [hρold i hlt']; exact k7 i hlt'
        · have := hfreshN i (by omega) hi
          omega
    · have cross : ∀ t ∈ ts, ∀ u ∈ s.toks, ∀ b e r b' e' r', τ' t = some (b, e, r) → τ' u = some (b', e', r') → b = b' → False := by
        intro t ht u hu b e r b' e' r' hb hb' heq
        have k3 : w.heap.size ≤ b := ((hS.tok t ht).2 b e r hb).1.elim (fun h => h) fun h => h.elim
        obtain ⟨k1, k2⟩ := h.tok u hu
        rw [hS.tau u k1] at hb'
        obtain ⟨_, ⟨cur, T, k4, _⟩, _⟩ := k2 b' e' r' hb'
        have := (Array.getElem?_eq_some_iff.1 k4).1
        omega
      intro t ht u hu b e r b' e' r' hb hb' heq
      rcases List.mem_append.1 ht with ht | ht <;> rcases List.mem_append.1 hu with hu | hu
      · exact hS.tokd t ht u hu b e r b' e' r' hb hb' heq
      · exact (cross t ht u hu b e r b' e' r' hb hb' heq).elim
      · exact (cross u hu t ht b' e' r' b e r hb' hb heq.symm).elim
      · rw [hS.tau t (h.tok t ht).1] at hb
        rw [hS.tau u (h.tok u hu).1] at hb'
        exact h.tokd t ht u hu b e r b' e' r' hb hb' heq
    · intro b hb hk
      rw [hblkN b (by have := h.size; omega) (fun j i hj e => ?_)]
      · exact h.blk b hb hk
      · have hilt := (hget j i hj).2
        by_cases hik : i < E.k
        · exact hk.2 i hik (by rw [← h.rho i hik]; exact e)
        · have := h.fresh i (by omega) hilt
          omega
    · intro b hb o
      rw [hII b (by have := h.size; have := hb.1; omega)]
      exact h.ifr b hb o
    · intro i hi
      have := h.len
      rw [hρold i (by omega)]
      exact h.rho i hi
    · intro i hk hi
      by_cases hlt : i < s.objs.length
      · rw [hρold i hlt]; exact h.fresh i hk hlt
      · exact Nat.le_trans h.size (hfreshN i (by omega) hi)
    · intro t ht
      have h1 := h.ntle
      rw [hS.tau t (by show t < s.nt; omega)]
      exact h.tau t ht
    · have := h.len; rw [hpl]; omega
    · have h1 := h.ntle; have h2 : s.nt ≤ m := hS.ntle; omega
  subst he
  refine ⟨x, rfl, _, _, hK r os ts m hR, rfl, I', τ', ρ'', hSt', fun t => ?_, ?_⟩
  · exact (h2 t).mono ⟨hext, by rw [hpl]; omega, fun o ho => hρold o ho⟩
  · refine hA.rn (fun o ho => ?_) (fun o ho => ?_)
    · unfold rnO
      split
      · rename_i hlt
        obtain ⟨i, hi⟩ := hidx o hlt
        rw [hgetD o i hi, hpl]
        have := (hget o i hi).2
        omega
      · rw [hpl]; omega
    · unfold rnO
      split
      · rename_i hlt
        obtain ⟨i, hi⟩ := hidx o hlt
        rw [hgetD o i hi, hρold i (hget o i hi).2]
        rw [hS.rho o (by show o < lent.length; omega)]
        show ρ i = ρ (is.getD o 0)
        rw [hgetD o i hi]
      · rw [hρnew _ (by omega)]
        congr 1
        omega

theorem acn_of_body {P : Program} (TT : Tab P) {g : FuncId} {fn : Func} {c : Code} {args : List AV} {objs : List AO} {R : Nat → AV → List AO → List Nat → Nat → Prop}
    (hcall : CallOK P g) (hf : P.funcs[g]? = some fn) (hb : fn.body = some c) (hn : args.length ≤ fn.ntmps) (hok : codeOK fn.ntmps c = true)
    (h : ∀ E : Ent, (∀ b, ¬E.lb b) → E.k = objs.length → AWp P E c (RetQ TT fn.results.toList objs.length E.nt0 R) ⟨env0 0 args, objs, [], E.nt0⟩) : ACN P g args objs R := by
  refine ⟨hcall, fun E0 vs hlb hk hS hA => ?_⟩
  let E : Ent := { E0 with n := fn.ntmps }
  have hS' : St E objs [] E.nt0 E.I0 E.τ0 E.ρ0 E.w0 := ⟨hS.iok, hS.obj, hS.objI, hS.inj, hS.tok, hS.tokd, hS.os, hS.tape, hS.output, hS.size, hS.blk, hS.ifr, hS.ifl, hS.rho, hS.fresh, hS.tau, hS.len, hS.ntle, hS.i0, hS.tn⟩
  have hvl : vs.length = args.length := hA.1.symm
  refine calls_of_wp hf hb ?_
  refine Go.wp_mono (h E hlb hk hok _ E0.w0 ⟨⟨E.I0, E.τ0, E.ρ0, hS', fun t => ?_⟩, ?_, rfl⟩) fun e a' w' ⟨s', hq, hs'⟩ => ?_
  · rw [env0_get]
    simp only [Nat.not_lt_zero, if_false, Nat.sub_zero]
    cases ha : args[t]? with
    | none => exact .unk _
    | some v =>
      have hlt := (List.getElem?_eq_some_iff.1 ha).1
      have hx : vs[t]? = some (vs[t]'(by omega)) := List.getElem?_eq_getElem _
      have := hA.2 t v _ ha hx
      simp only [Option.getD_some]
      have e : (vs.toArray ++ Array.replicate (fn.ntmps - vs.toArray.size) undef).getD t undef = vs[t]'(by omega) := by
        simp only [Array.getD_eq_getD_getElem?]
        rw [Array.getElem?_append_left (by simp; omega)]
        simp [hx]
      rw [e]
      exact this
  · simp only [Array.size_append, List.size_toArray, Array.size_replicate]
    show vs.length + (fn.ntmps - vs.length) = fn.ntmps
    omega
  · have fin : ∀ e, (e = Exit.normal ∨ e = Exit.ret) → RetQ TT fn.results.toList objs.length E.nt0 R e s' → bodyPost P fn (fun e w' => ∃ x, e = .returned x ∧ ∃ r objs' toks' nt' I' τ' ρ', R E0.nt0 r objs' toks' nt' ∧ St E0 objs' toks' nt' I' τ' ρ' w' ∧ RepA I' τ' ρ' objs'.length r x) e a' w' := by
      intro e he hq
      have hq' : ∃ vs m toks, resList TT s' fn.results.toList = some vs ∧ objs.length ≤ m ∧ (∀ t ∈ toks, t ∈ s'.toks) ∧ (resV vs).scop (s'.objs.take m).length = true ∧ R E.nt0 (resV vs) (s'.objs.take m) toks s'.nt := by
        rcases he with rfl | rfl <;> exact hq
      obtain ⟨us, m, toks, q1, q2, q3, q4, q5⟩ := hq'
      obtain ⟨I, τ, ρ, h1, h2⟩ := hs'.ex
      obtain ⟨xs, r1, r2, r3⟩ := run_results TT h1 h2 fn.results.toList us q1
      have hres : (results fn a'.tmps).run P w' = .ok (if hh : xs.toArray.size = 1 then xs.toArray[0] else .tuple xs.toArray) w' := by
        unfold results
        rw [Sem.run_bind, Array.mapM_eq_mapM_toList, Sem.run_map]
        exact congrArg (fun (r : Result (List Value)) => ((r.andThen fun a w' => Result.ok a.toArray w').andThen fun a w' => Sem.run P (pure (if h : a.size = 1 then a[0] else Value.tuple a)) w')) r1
      have hval : RepA I τ ρ s'.objs.length (resV us) (if hh : xs.toArray.size = 1 then xs.toArray[0] else .tuple xs.toArray) := by
        split
        · rename_i hh
          simp only [List.size_toArray] at hh
          obtain ⟨x, rfl⟩ := List.length_eq_one_iff.1 hh
          rw [hh] at r2
          obtain ⟨u, rfl⟩ := List.length_eq_one_iff.1 r2
          exact r3 0 u x rfl rfl
        · rename_i hh
          simp only [List.size_toArray] at hh
          have : resV us = .tup us := by
            match us, r2 with
            | [], _ => rfl
            | [u], r2 => simp at r2; exact absurd r2.symm hh
            | _ :: _ :: _, _ => rfl
          rw [this]
          exact .tup us xs r2 r3
      have hk' : E.k ≤ m := by show E0.k ≤ m; omega
      have hS2 := (h1.trim m hk').sub toks q3
      have hS3 : St E0 (s'.objs.take m) toks s'.nt I τ ρ w' := ⟨hS2.iok, hS2.obj, hS2.objI, hS2.inj, hS2.tok, hS2.tokd, hS2.os, hS2.tape, hS2.output, hS2.size, hS2.blk, hS2.ifr, hS2.ifl, hS2.rho, hS2.fresh, hS2.tau, hS2.len, hS2.ntle, hS2.i0, hS2.tn⟩
      have : bodyPost P fn (fun e w' => ∃ x, e = .returned x ∧ ∃ r objs' toks' nt' I' τ' ρ', R E0.nt0 r objs' toks' nt' ∧ St E0 objs' toks' nt' I' τ' ρ' w' ∧ RepA I' τ' ρ' objs'.length r x) .ret a' w' :=
        ⟨hs'.df, _, hres, _, rfl, _, _, _, _, I, τ, ρ, q5, hS3, hval.scop q4⟩
      rcases he with rfl | rfl <;> exact this
    cases e with
    | normal => exact fin .normal (.inl rfl) hq
    | ret => exact fin .ret (.inr rfl) hq
    | _ => exact hq.elim
section
variable {P : Program} (TT : Tab P) (E : Ent) {all : List (Option Nat)} {s : AS} {K : AS → Prop} {dst : Option Nat} {rest : List Oper} {g : FuncId} {args : List AV}
theorem callK_acN {lent : List AO} {args' : List AV} {R : Nat → AV → List AO → List Nat → Nat → Prop} (is : List Nat) (hac : ACN P g args' lent R)
    (ha : args'.map (AV.rn is s.objs.length) = args) (hsc : (args'.all fun v => v.scopedT is.length) = true) (hlent : lent.map some = is.map fun i => s.objs[i]?) (hnd : is.Nodup)
    (hK : ∀ r os ts m, R s.nt r os ts m → rvc TT E all rest (({ s with objs := putObjs s.objs is os, toks := ts ++ s.toks, nt := m } : AS).put dst (r.rn is s.objs.length)) K) : callK TT E all g args dst rest s K :=
  callV_acN is lent hac hlent hnd (fun _ _ _ _ _ h => h.unrn hsc ha) hK
end
theorem redoK_in {I : IH} {b e o : Nat} {arr : Array Value} (h : o < e) : redoI I b e arr b o = arr[o]? := by simp [redoI, h]
theorem redoK_out {I : IH} {b e b' o : Nat} {arr : Array Value} (h : b' ≠ b) : redoI I b e arr b' o = I b' o := by simp [redoI, h]
theorem updK_new {τ : TH} {t : Nat} {v : Option (Nat × Nat × Nat)} : updT τ t v t = v := by simp [updT]
theorem St.redoN {E : Ent} {objs : List AO} {toks : List Nat} {nt : Nat} {I : IH} {τ : TH} {ρ : Nat → Nat} {w w' : World} (h : St E objs toks nt I τ ρ w) (hn : ∀ b, ¬E.lb b) (hk : E.k = 0) {t b e r : Nat} (ht : t ∈ toks) (hb : τ t = some (b, e, r))
    {arr : Array Value} {T : TypeId} {e' : Nat} (hF : FrameW [b] w w') (hw : w'.heap[b]? = some (.cells arr T (0, 0))) (hr : arr.size = r) {objs' : List AO} (hol : objs'.length = objs.length) (hob : ∀ (i : Nat) o, objs'[i]? = some o → RepO (redoI I b e' arr) (updT τ nt (some (b, e', r))) o (w'.heap[ρ i]?)) :
    St E objs' (nt :: toks.filter (· != t)) (nt + 1) (redoI I b e' arr) (updT τ nt (some (b, e', r))) ρ w' ∧ b < w.heap.size ∧ E.w0.heap.size ≤ b := by
  obtain ⟨g1, gt⟩ := h.tok t ht
  obtain ⟨gbo, ⟨cur, T0, g2, g3⟩, g4, g5⟩ := gt _ _ _ hb
  have gb := gbo.resolve_right (hn _)
  have hbs : b < w.heap.size := (Array.getElem?_eq_some_iff.1 g2).1
  have hsame : ∀ b', b' < w.heap.size → b' ≠ b → w'.heap[b']? = w.heap[b']? := fun b' hb' hne => hF.same b' hb' (by simpa using hne)
  have hne : ∀ u ∈ toks, u ≠ nt := fun u hu => Nat.ne_of_lt (h.tok u hu).1
  have hoth : ∀ u ∈ toks.filter (· != t), u ∈ toks ∧ u ≠ t := fun u hu => by simpa using hu
  have hblk : ∀ u ∈ toks.filter (· != t), ∀ b1 e1 r1, τ u = some (b1, e1, r1) → b1 ≠ b := fun u hu b1 e1 r1 h1 he => (hoth u hu).2 (h.tokd u (hoth u hu).1 t ht _ _ _ _ _ _ h1 hb he)
  refine ⟨⟨fun b' o u hu => ?_, hob, fun j hj => ?_, fun j k hj hk2 he => h.inj j k (hol ▸ hj) (hol ▸ hk2) he, fun u hu => ?_, fun u hu u' hu' b1 e1 r1 b2 e2 r2 h1 h2 he => ?_, hF.os.trans h.os, hF.tape.trans h.tape, hF.output.trans h.output, Nat.le_trans h.size hF.size, fun b' hb' hi => ?_, fun b' hb' o => ?_, fun b' hb' => absurd hb' (hn b'), fun j hj => by omega, fun j hj hj' => h.fresh j hj (hol ▸ hj'), fun u hu => ?_, by omega, by have := h.ntle; omega, h.i0, fun u hu => ?_⟩, hbs, gb⟩
  · by_cases hbb : b' = b
    · subst hbb
      simp only [redoI, if_true] at hu
      split at hu
      · simp only [World.cell?, hw]; simpa using hu
      · cases hu
    · rw [redoK_out hbb] at hu
      have hlt := h.lt_of_I hu
      have := h.iok b' o u hu
      simpa [World.cell?, hsame b' hlt hbb] using this
  · have hj2 : j < objs.length := hol ▸ hj
    obtain ⟨x1, x2⟩ := h.objI j hj2
    exact ⟨Nat.lt_of_lt_of_le x1 hF.size, fun off => by rw [redoK_out (g5 j hj2)]; exact x2 off⟩
  · rcases List.mem_cons.1 hu with rfl | hu
    · refine ⟨by omega, fun b' e1 r1 hb' => ?_⟩
      rw [updK_new] at hb'
      simp only [Option.some.injEq, Prod.mk.injEq] at hb'
      obtain ⟨rfl, rfl, rfl⟩ := hb'
      exact ⟨.inl gb, ⟨arr, T, hw, hr⟩, fun o ho => by simp only [redoI, if_true]; rw [if_neg (by omega)], fun j hj => g5 j (hol ▸ hj)⟩
    · obtain ⟨k1, k2⟩ := h.tok u (hoth u hu).1
      refine ⟨by omega, fun b' e1 r1 hb' => ?_⟩
      simp only [updT, if_neg (hne u (hoth u hu).1)] at hb'
      obtain ⟨q1, ⟨c, T1, q2, q3⟩, q4, q5⟩ := k2 _ _ _ hb'
      have hb1 := hblk u hu _ _ _ hb'
      exact ⟨q1, ⟨c, T1, by rw [hsame b' (Array.getElem?_eq_some_iff.1 q2).1 hb1]; exact q2, q3⟩, fun o ho => by rw [redoK_out hb1]; exact q4 o ho, fun j hj => q5 j (hol ▸ hj)⟩
  · rcases List.mem_cons.1 hu with e1' | hu1
    · rcases List.mem_cons.1 hu' with e2' | hu2
      · rw [e1', e2']
      · exfalso
        subst e1'
        rw [updK_new] at h1
        simp only [Option.some.injEq, Prod.mk.injEq] at h1
        simp only [updT, if_neg (hne u' (hoth u' hu2).1)] at h2
        exact hblk u' hu2 _ _ _ h2 (he ▸ h1.1.symm)
    · rcases List.mem_cons.1 hu' with e2' | hu2
      · exfalso
        subst e2'
        rw [updK_new] at h2
        simp only [Option.some.injEq, Prod.mk.injEq] at h2
        simp only [updT, if_neg (hne u (hoth u hu1).1)] at h1
        exact hblk u hu1 _ _ _ h1 (he.trans h2.1.symm)
      · simp only [updT, if_neg (hne u (hoth u hu1).1)] at h1
        simp only [updT, if_neg (hne u' (hoth u' hu2).1)] at h2
        exact h.tokd u (hoth u hu1).1 u' (hoth u' hu2).1 _ _ _ _ _ _ h1 h2 he
  · rw [hsame b' (Nat.lt_of_lt_of_le hb' h.size) (by omega)]
    exact h.blk b' hb' hi
  · rw [redoK_out (by have := hb'.1; omega)]
    exact h.ifr b' hb' o
  · have hne : u ≠ nt := by have := h.ntle; omega
    simp only [updT, if_neg hne]
    exact h.tau u hu
  · have hne : u ≠ nt := by omega
    simp only [updT, if_neg hne]
    exact h.tn u (by omega)


/-! ### Regions, up to an operation -/
theorem rvc_soundN {P : Program} {TT : Tab P} {E : Ent} {all : Array Oper} {K : AS → Prop} {Q : Exit → Act → World → Prop} {suf : List Oper} (hq : ∀ s' a' w', K s' → Sim E s' a' w' → wpList P all Q suf a' w') :
    ∀ (rest : List Oper) (s : AS) (a : Act) (w : World), (rest.all fun o => o.dst.all fun d => decide (d < E.n)) = true → Sim E s a w → rvc TT E (all.toList.map (·.dst)) rest s K → wpList P all Q (rest ++ suf) a w := by
  intro rest
  induction rest with
  | nil => intro s a w _ hs h; exact hq s a w h hs
  | cons o rest ih =>
    intro s a w hd hs h
    obtain ⟨dst, op, ty, pos, after, guard⟩ := o
    simp only [List.all_cons, Bool.and_eq_true] at hd
    have hdst : ∀ d, dst = some d → d < E.n := fun d hdd => by
      have := hd.1
      simp only [hdd, Option.all_some, decide_eq_true_eq] at this
      exact this
    have hstep := step_ok (P := P) (E := E) (s := s) (ty := ty) TT op
    have go : ∀ (g : Option (Nat × Bool)), (match stp TT s op with
      | .ok pre fact v s' => pre ∧ (fact → rvc TT E (all.toList.map (·.dst)) rest (s'.put dst v) K)
      | .call g args => CallV P E s g args fun v s' => rvc TT E (all.toList.map (·.dst)) rest (s'.put dst v) K
      | .stop => False) → (Oper.mk dst op ty pos after g).wp P a w (wpList P all Q (rest ++ suf)) Q := by
      intro g hr
      cases hst : stp TT s op with
      | ok pre fact v s' =>
        rw [hst] at hr hstep
        refine (hstep hr.1).wp hs hdst fun v0 s0 ⟨h1, h2, h3⟩ _ a' w' hs' => ?_
        subst h2; subst h3
        exact ih _ a' w' hd.2 hs' (hr.2 h1)
      | call f args =>
        rw [hst] at hr hstep
        exact (hstep _ hr).wp hs hdst fun v0 s0 hk _ a' w' hs' => ih _ a' w' hd.2 hs' hk
      | stop => rw [hst] at hr; exact hr.elim
    rw [List.cons_append]
    unfold wpList
    cases guard with
    | none =>
      rw [if_pos (by simp [Region.wanted])]
      exact .inl (go none h)
    | some jw =>
      obtain ⟨j, want⟩ := jw
      simp only [rvc] at h
      split at h
      · rename_i t ht
        split at h
        · rename_i b hb
          obtain ⟨I, τ, ρ, h1, h2⟩ := hs.ex
          have hv := h2 t
          rw [hb] at hv
          have hbv := rep_bool hv
          have hy : yielded all a.tmps j = some b := by
            simp only [List.getElem?_map, Array.getElem?_toList, Option.map_eq_some_iff] at ht
            obtain ⟨o, ho, hod⟩ := ht
            have hbv' : a.tmps[t]? = some (.bool b) := by
              simp only [Array.getD_eq_getD_getElem?] at hbv
              cases hq : a.tmps[t]? with
              | none => rw [hq] at hbv; simp [undef] at hbv
              | some x => rw [hq] at hbv; simpa using hbv
            simp [yielded, ho, hod, hbv']
          by_cases hw : b = want
          · rw [if_pos (by simp [Region.wanted, hy, hw])]
            exact .inl (go _ (h.1 hw))
          · rw [if_neg (by simp [Region.wanted, hy, hw])]
            refine ih _ _ w hd.2 ?_ (h.2 (by cases b <;> cases want <;> simp_all))
            exact (undef_res hs).sim dst hs.sz hs.df hdst
        · rename_i hb
          obtain ⟨I, τ, ρ, h1, h2⟩ := hs.ex
          have hv := h2 t
          rw [hb] at hv
          have hbv := rep_undef hv
          have hy : yielded all a.tmps j = none := by
            simp only [List.getElem?_map, Array.getElem?_toList, Option.map_eq_some_iff] at ht
            obtain ⟨o, ho, hod⟩ := ht
            simp only [Array.getD_eq_getD_getElem?] at hbv
            cases hq : a.tmps[t]? with
            | none => simp [yielded, ho, hod, hq]
            | some x => rw [hq] at hbv; simp at hbv; subst hbv; simp [yielded, ho, hod, hq, undef]
          rw [if_neg (by simp [Region.wanted, hy])]
          exact ih _ _ w hd.2 ((undef_res hs).sim dst hs.sz hs.df hdst) h
        · exact h.elim
      · exact h.elim

section
variable {P : Program} {E : Ent} {all : Array Oper} {Q : Exit → AS → Prop} {s : AS} {rest l : List Oper} {dst : Option Nat} {ty : TypeId} {pos : String} {after : Array Edge}
/-- A region, up to its operation k. -/
theorem awp_regionN (TT : Tab P) {id : Nat} (k : Nat)
    (h : ∀ K : AS → Prop, (∀ s', Sem P E l.toArray (l.drop k) Q s' → K s') → rvc TT E (l.map (·.dst)) (l.take k) s K) : AWp P E (.region id l.toArray false) Q s := fun hok a w hs => by
  simp only [codeOK] at hok
  have hok' : (l.all fun o => o.dst.all fun d => decide (d < E.n)) = true := by simpa using hok
  have h1 : ((l.take k).all fun o => o.dst.all fun d => decide (d < E.n)) = true := List.all_eq_true.2 fun o ho => List.all_eq_true.1 hok' o (List.mem_of_mem_take ho)
  have h2 : ((l.drop k).all fun o => o.dst.all fun d => decide (d < E.n)) = true := List.all_eq_true.2 fun o ho => List.all_eq_true.1 hok' o (List.mem_of_mem_drop ho)
  refine wp_region_lit ?_
  have key := rvc_soundN (TT := TT) (all := l.toArray) (K := Sem P E l.toArray (l.drop k) Q) (Q := fun e a' w' => ∃ s', Q e s' ∧ Sim E s' a' w') (suf := l.drop k) (fun s' a' w' hk hs' => hk h2 a' w' hs') (l.take k) s a w h1 hs (by
    have := h _ (fun _ h => h)
    simpa using this)
  rw [List.take_append_drop] at key
  exact key
theorem awp_seqrN (TT : Tab P) {id : Nat} (k : Nat) {y : Code}
    (h : ∀ K : AS → Prop, (∀ s', Sem P E l.toArray (l.drop k) (AThen (AWp P E y Q) Q) s' → K s') → rvc TT E (l.map (·.dst)) (l.take k) s K) : AWp P E (.seq (.region id l.toArray false) y) Q s :=
  awp_seq (awp_regionN TT k h)
theorem sem_rvcN (TT : Tab P) (h : ∀ K : AS → Prop, (∀ s', Q .normal s' → K s') → rvc TT E (all.toList.map (·.dst)) l s K) : Sem P E all l Q s := fun hd a w hs =>
  rvc_sound (TT := TT) (K := Q .normal) (fun s' a' w' hk hs' => ⟨s', hk, hs'⟩) l s a w hd hs (h _ fun _ h => h)
end
/-! ### Texts in a slice that a variable holds, rewritten in place -/
def encT1 (s : List UInt8) : List DV := [.str s]
/-- g puts f zs where zs stood; what it hands back. -/
def InG (P : Program) (g : FuncId) (f : List (List UInt8) → List (List UInt8)) (ret : Nat → Nat → Nat → Value) : Prop :=
  CallOK P g ∧ (∀ zs, (f zs).length ≤ zs.length) ∧ ∀ (w : World) (b cap : Nat) (zs : List (List UInt8)) (arr : Array Value) (T : TypeId), w.heap[b]? = some (.cells arr T (0, 0)) → arr.size = cap → cap ≤ 9223372036854775807 → zs.length ≤ cap → zs.length < 4611686018427387904 → (∀ (j : Nat) z, zs[j]? = some z → arr[j]? = some (.string ⟨z.toArray⟩)) →
    Calls P g [Value.slice (some ⟨b, 0, none⟩) zs.length cap].toArray w fun e w' => e = .returned (ret b cap (f zs).length) ∧ (∃ arr', w'.heap[b]? = some (.cells arr' T (0, 0)) ∧ arr'.size = arr.size ∧ ∀ (j : Nat) z, (f zs)[j]? = some z → arr'[j]? = some (.string ⟨z.toArray⟩)) ∧ FrameW [b] w w'
def scP : AV → Bool
  | .d c => isSc c
  | .ptr _ _ => true
  | _ => false
theorem scP_rep {I I' : IH} {τ τ' : TH} {ρ : Nat → Nat} {n : Nat} {v : AV} {x : Value} (h : RepA I τ ρ n v x) (hs : scP v = true) : RepA I' τ' ρ n v x := by
  cases h with
  | d c v hr =>
    cases hr with
    | int k m => exact .d _ _ (.int k m)
    | bool b => exact .d _ _ (.bool b)
    | str s h => exact .d _ _ (.str s h)
    | _ => simp [scP, isSc] at hs
  | ptr o off h => exact .ptr o off h
  | _ => simp [scP] at hs
theorem pickP_rep {I I' : IH} {τ τ' : TH} {ρ : Nat → Nat} {n : Nat} {env : List (Nat × AV)} {f g : Nat → Value} (hA : ∀ t, RepA I τ ρ n (getE env t) (f t)) : ∀ (L : List Nat) {kept : List (Nat × AV)}, pickE env L = kept → (kept.all fun p => scP p.2) = true → (∀ t ∈ L, g t = f t) → ∀ t, RepA I' τ' ρ n (getE kept t) (g t)
  | [], kept, h, _, _, t => by subst h; exact .unk _
  | u :: L, kept, h, hs, hg, t => by
    subst h
    simp only [pickE, List.map_cons, List.all_cons, Bool.and_eq_true] at hs
    simp only [pickE, List.map_cons, getE]
    split
    · rename_i e
      subst e
      rw [hg _ (by simp)]
      exact scP_rep (hA _) hs.1
    · exact pickP_rep hA L rfl hs.2 (fun t ht => hg t (by simp [ht])) t
/-- A list of texts that bears a token: where it lies. -/
theorem texts_tok {E : Ent} {objs : List AO} {toks : List Nat} {nt : Nat} {I : IH} {τ : TH} {ρ : Nat → Nat} {w : World} (h : St E objs toks nt I τ ρ w) {t : Nat} {zs : List (List UInt8)} {v : Value} (hr : RepD I τ (.sl 1 (zs.map encT1) (.tok t)) v) (ht : t ∈ toks) (hz : 0 < zs.length) :
    ∃ b cap arr T, v = .slice (some ⟨b, 0, none⟩) zs.length cap ∧ τ t = some (b, zs.length * 1, cap * 1) ∧ w.heap[b]? = some (.cells arr T (0, 0)) ∧ arr.size = cap ∧ zs.length ≤ cap ∧ cap ≤ 9223372036854775807 ∧ (∀ (j : Nat) z, zs[j]? = some z → arr[j]? = some (.string ⟨z.toArray⟩)) ∧ (∀ s ∈ zs, s.length ≤ 9223372036854775807) := by
  have hlen : (zs.map encT1).length = zs.length := by simp
  cases hr with
  | sl _ _ _ a cap vals hsz hcap hmax hnil hadr hIc hrep hown =>
    rw [hlen] at *
    rcases hown with h0 | ⟨b, hb, rfl⟩
    · omega
    have hrs : ∀ (j : Nat) s, zs[j]? = some s → vals (j * 1 + 0) = .string ⟨s.toArray⟩ ∧ s.length ≤ 9223372036854775807 := fun j s hj => by
      have := hrep j [.str s] 0 (.str s) (by rw [List.getElem?_map, hj]; rfl) rfl
      cases hv : vals (j * 1 + 0) with
      | _ => rw [hv] at this; cases this <;> exact ⟨rfl, by assumption⟩
    obtain ⟨_, gt⟩ := h.tok t ht
    obtain ⟨gb, ⟨cur, T, g2, g3⟩, g4, g5⟩ := gt _ _ _ hb
    refine ⟨b, cap, cur, T, rfl, hb, g2, by omega, hcap, hmax, fun j z hj => ?_, fun s hs => ?_⟩
    · have hIb := hIc _ rfl j [.str z] 0 (.str z) (by rw [List.getElem?_map, hj]; rfl) rfl
      have := h.iok _ _ _ hIb
      rw [(hrs j z hj).1] at this
      simp only [World.cell?, g2] at this
      simpa using this
    · obtain ⟨j, hj⟩ := List.getElem?_of_mem hs
      exact (hrs j s hj).2
theorem texts_rep {I : IH} {τ : TH} {zs : List (List UInt8)} {b cap t : Nat} {arr : Array Value} (hcap : zs.length ≤ cap) (hm : cap ≤ 9223372036854775807) (hl : ∀ s ∈ zs, s.length ≤ 9223372036854775807) (hI : ∀ o, o < zs.length → I b o = arr[o]?) (hc : ∀ (j : Nat) z, zs[j]? = some z → arr[j]? = some (.string ⟨z.toArray⟩)) (ht : τ t = some (b, zs.length * 1, cap * 1)) :
    RepD I τ (.sl 1 (zs.map encT1) (.tok t)) (.slice (some ⟨b, 0, none⟩) zs.length cap) := by
  have hlen : (zs.map encT1).length = zs.length := by simp
  have := RepD.sl (I := I) (τ := τ) 1 (zs.map encT1) (.tok t) (some ⟨b, 0, none⟩) cap (fun i => ((zs[i]?).map fun s => Value.string ⟨s.toArray⟩).getD undef)
    (by intro x hx; obtain ⟨s, _, rfl⟩ := List.mem_map.1 hx; rfl) (by rw [hlen]; exact hcap) hm (by simp) (by rintro _ adr ⟨⟩; rfl) ?_ ?_ (.inr ⟨b, by rw [hlen]; exact ht, rfl⟩)
  · rw [hlen] at this; exact this
  · rintro adr ⟨⟩ i x j c hx hcx
    rw [List.getElem?_map, Option.map_eq_some_iff] at hx
    obtain ⟨s, hs, rfl⟩ := hx
    obtain rfl : j = 0 := by have := (List.getElem?_eq_some_iff.1 hcx).1; simpa [encT1] using this
    have hi := (List.getElem?_eq_some_iff.1 hs).1
    simp only [Nat.mul_one, Nat.add_zero, hs, Option.map_some, Option.getD_some]
    show I b (0 + i) = _
    rw [Nat.zero_add, hI i hi, hc i s hs]
  · intro i x j c hx hcx
    rw [List.getElem?_map, Option.map_eq_some_iff] at hx
    obtain ⟨s, hs, rfl⟩ := hx
    obtain rfl : j = 0 := by have := (List.getElem?_eq_some_iff.1 hcx).1; simpa [encT1] using this
    simp [encT1] at hcx
    subst hcx
    simp only [Nat.mul_one, Nat.add_zero, hs, Option.map_some, Option.getD_some]
    exact .str s (hl s (List.mem_of_getElem? hs))
section
variable {P : Program} {E : Ent} {all : Array Oper} {Q : Exit → AS → Prop} {s : AS} {rest : List Oper}
theorem inG_step {g : FuncId} {f : List (List UInt8) → List (List UInt8)} {ret : Nat → Nat → Nat → Value} {t0 : Nat} {zs : List (List UInt8)} (hD : InG P g f ret) (hn : ∀ b, ¬E.lb b) (hk : E.k = 0) (hz0 : 0 < zs.length) (hzl : zs.length < 4611686018427387904) (ht0 : t0 ∈ s.toks) (hlf : ∀ x ∈ f zs, x ∈ zs)
    {I : IH} {τ : TH} {ρ : Nat → Nat} {w : World} {v : Value} (h1 : St E s.objs s.toks s.nt I τ ρ w) (hv : RepD I τ (.sl 1 (zs.map encT1) (.tok t0)) v) :
    ∃ b cap, v = .slice (some ⟨b, 0, none⟩) zs.length cap ∧ τ t0 = some (b, zs.length * 1, cap * 1) ∧ Calls P g [v].toArray w fun e w' => e = .returned (ret b cap (f zs).length) ∧ ∃ arr', (∀ objs', objs'.length = s.objs.length → (∀ (i : Nat) o', objs'[i]? = some o' → RepO (redoI I b (f zs).length arr') (updT τ s.nt (some (b, (f zs).length * 1, cap * 1))) o' (w'.heap[ρ i]?)) →
        St E objs' [s.nt] (s.nt + 1) (redoI I b (f zs).length arr') (updT τ s.nt (some (b, (f zs).length * 1, cap * 1))) ρ w') ∧ RepD (redoI I b (f zs).length arr') (updT τ s.nt (some (b, (f zs).length * 1, cap * 1))) (.sl 1 ((f zs).map encT1) (.tok s.nt)) (.slice (some ⟨b, 0, none⟩) (f zs).length cap) ∧ (∀ i, i < s.objs.length → ρ i ≠ b) ∧ (∀ b', b' < w.heap.size → b' ≠ b → w'.heap[b']? = w.heap[b']?) := by
  obtain ⟨b, cap, arr, T, rfl, hb, hw, hsz, hc1, hc2, hcell, hsl⟩ := texts_tok h1 hv ht0 hz0
  have hfl := hD.2.1 zs
  refine ⟨b, cap, rfl, hb, (hD.2.2 w b cap zs arr T hw hsz hc2 hc1 hzl hcell).mono fun e w' ⟨q1, ⟨arr', q2, q3, q4⟩, q5⟩ => ⟨q1, arr', fun objs' ho1 ho2 => ?_, ?_, ?_, fun b' hb' hne => q5.same b' hb' (by simpa using hne)⟩⟩
  · rw [Nat.mul_one] at ho2 ⊢
    obtain ⟨k1, _, _⟩ := h1.redoN hn hk ht0 hb (e' := (f zs).length) q5 q2 (by omega) ho1 ho2
    exact k1.sub _ fun u hu => by simp at hu; simp [hu]
  · exact texts_rep (by omega) hc2 (fun x hx => hsl x (hlf x hx)) (fun o ho => redoK_in ho) q4 updT_new
  · exact ((h1.tok t0 ht0).2 _ _ _ hb).2.2.2
theorem runG {g : FuncId} {f : List (List UInt8) → List (List UInt8)} {ret : Nat → Nat → Nat → Value} {tx : Nat} {d : Option Nat} {ty : TypeId} {pos : String} {after : Array Edge} {tys : Array TypeId} {a : Act} {w : World} {v : Value} (hD : InG P g f ret) (hv : a.tmps.getD tx undef = v) :
    (execOp a.eval ⟨d, .call ⟨.value (.func g), #[.tmp tx], tys⟩, ty, pos, after, none⟩).run P w = .ok (.enter g [v].toArray) w := by
  have := hD.1 [v].toArray w
  have ef : a.eval (.func g) = Value.func (.func g) #[] #[] := rfl
  have ex : a.eval (.tmp tx) = v := hv
  simp only [execOp, resolve, ef, Deferred.ofValue, pure_bind, invoke, Array.empty_append]
  simpa [ex] using this
theorem put_tmpsN {a a' : Act} {o : Option Nat} {v : Value} {d : Nat} (h : a'.tmps = (a.put o v).tmps) (hd : o ≠ some d) : a'.tmps.getD d undef = a.tmps.getD d undef := by
  rw [h]
  cases o with
  | none => rfl
  | some x =>
    have hx : x ≠ d := fun e => hd (by rw [e])
    simp only [Act.put, Array.getD_eq_getD_getElem?, Array.getElem?_setIfInBounds]
    rw [if_neg hx]
/-- A function that puts f zs where zs stood and hands back nothing: a variable holds the slice. -/
theorem sem_sortO {g : FuncId} {f : List (List UInt8) → List (List UInt8)} {tx o t0 : Nat} {d : Option Nat} {ty : TypeId} {pos : String} {after : Array Edge} {tys : Array TypeId} {zs : List (List UInt8)} (L : List Nat) {kept : List (Nat × AV)}
    (hD : InG P g f fun _ _ _ => .tuple #[]) (hn : ∀ b, ¬E.lb b) (hk : E.k = 0) (hfl : (f zs).length = zs.length) (hlf : ∀ x ∈ f zs, x ∈ zs) (hx : getE s.env tx = .d (.sl 1 (zs.map encT1) (.tok t0))) (ho : s.objs[o]? = some (.cells [.sl 1 (zs.map encT1) (.tok t0)])) (hz0 : 0 < zs.length) (hzl : zs.length < 4611686018427387904) (ht0 : t0 ∈ s.toks)
    (hkept : pickE s.env L = kept) (hks : (kept.all fun p => scP p.2) = true) (hdo : d = none ∨ ∃ d', d = some d' ∧ d' ∉ L)
    (h : Sem P E all rest Q ⟨kept, (s.objs.map fun _ => AO.gone).set o (.cells [.sl 1 ((f zs).map encT1) (.tok s.nt)]), [s.nt], s.nt + 1⟩) :
    Sem P E all (⟨d, .call ⟨.value (.func g), #[.tmp tx], tys⟩, ty, pos, after, none⟩ :: rest) Q s := fun hd a w hs => by
  simp only [List.all_cons, Bool.and_eq_true] at hd
  obtain ⟨⟨I, τ, ρ, h1, h2⟩, h3, h4⟩ := hs
  have vx := h2 tx
  rw [hx] at vx
  generalize hvx : a.tmps.getD tx undef = vxx at vx
  cases vx with
  | d _ _ rx =>
  have hol : o < s.objs.length := (List.getElem?_eq_some_iff.1 ho).1
  have hob := h1.obj o _ ho
  obtain ⟨b, cap, hveq, hbt, hcalls⟩ := inG_step hD hn hk hz0 hzl ht0 hlf h1 rx
  refine wpList_plain rfl fun K hK => ?_
  unfold Oper.wp
  rw [runG hD hvx]
  refine hcalls.mono fun e w' ⟨q1, arr', q2, q3, q4, q5⟩ => ?_
  subst q1
  have hbo := q4 o hol
  have hsame := q5 (ρ o) (h1.objI o hol).1 hbo
  refine hK _ _ (h hd.2 _ _ ⟨⟨_, _, ρ, q2 _ (by simp) fun i o' hi => ?_, fun u => ?_⟩, by cases d <;> simp [Act.put, h3], by cases d <;> simp [Act.put, h4]⟩)
  · rw [List.getElem?_set] at hi
    by_cases hio : o = i
    · subst hio
      rw [if_pos rfl, if_pos (by simpa using hol)] at hi
      obtain rfl := Option.some.inj hi
      rw [hsame]
      obtain ⟨vs, T, g1, g2⟩ := hob
      obtain ⟨vo, us, rfl, gv, g2⟩ := repL_one g2
      obtain rfl := repL_done g2
      obtain ⟨b2, cap2, _, _, rfl, hb2, _⟩ := texts_tok h1 gv ht0 hz0
      rw [hbt] at hb2
      simp only [Option.some.injEq, Prod.mk.injEq] at hb2
      obtain ⟨rfl, _, hc2⟩ := hb2
      obtain rfl : cap2 = cap := by omega
      refine ⟨_, T, g1, ⟨rfl, fun i c v hc hv => ?_⟩⟩
      cases i with
      | zero =>
        simp only [List.getElem?_cons_zero, Option.some.injEq] at hc hv
        subst hc; subst hv
        rw [← hfl]; exact q3
      | succ i => simp at hc
    · rw [if_neg hio, List.getElem?_map] at hi
      cases hq : s.objs[i]? with
      | none => rw [hq] at hi; cases hi
      | some x => rw [hq] at hi; obtain rfl := Option.some.inj hi; trivial
  · have hput : ∀ u, u ∈ L → (a.put d (.tuple #[])).tmps.getD u undef = a.tmps.getD u undef := fun u hu => by
      rcases hdo with rfl | ⟨d', rfl, h6⟩
      · rfl
      · exact put_tmpsN (o := some d') rfl (fun e => by cases e; exact h6 hu)
    have := pickP_rep (I' := redoI I b (f zs).length arr') (τ' := updT τ s.nt (some (b, (f zs).length * 1, cap * 1))) h2 L hkept hks (fun u hu => hput u hu) u
    simpa using this
/-- A function that puts f zs where zs stood and hands back what is left of the slice. -/
theorem sem_compO {g : FuncId} {f : List (List UInt8) → List (List UInt8)} {tx t0 d : Nat} {ty : TypeId} {pos : String} {after : Array Edge} {tys : Array TypeId} {zs : List (List UInt8)}
    (hD : InG P g f fun b cap n => .slice (some ⟨b, 0, none⟩) n cap) (hn : ∀ b, ¬E.lb b) (hk : E.k = 0) (hlf : ∀ x ∈ f zs, x ∈ zs) (hx : getE s.env tx = .d (.sl 1 (zs.map encT1) (.tok t0))) (hz0 : 0 < zs.length) (hzl : zs.length < 4611686018427387904) (ht0 : t0 ∈ s.toks)
    (h : Sem P E all rest Q ⟨[(d, .d (.sl 1 ((f zs).map encT1) (.tok s.nt)))], s.objs.map fun _ => AO.gone, [s.nt], s.nt + 1⟩) :
    Sem P E all (⟨some d, .call ⟨.value (.func g), #[.tmp tx], tys⟩, ty, pos, after, none⟩ :: rest) Q s := fun hd a w hs => by
  simp only [List.all_cons, Bool.and_eq_true, Option.all_some, decide_eq_true_eq] at hd
  obtain ⟨⟨I, τ, ρ, h1, h2⟩, h3, h4⟩ := hs
  have vx := h2 tx
  rw [hx] at vx
  generalize hvx : a.tmps.getD tx undef = vxx at vx
  cases vx with
  | d _ _ rx =>
  obtain ⟨b, cap, hveq, hbt, hcalls⟩ := inG_step hD hn hk hz0 hzl ht0 hlf h1 rx
  refine wpList_plain rfl fun K hK => ?_
  unfold Oper.wp
  rw [runG hD hvx]
  refine hcalls.mono fun e w' ⟨q1, arr', q2, q3, q4, q5⟩ => ?_
  subst q1
  refine hK _ _ (h hd.2 _ _ ⟨⟨_, _, ρ, q2 _ (by simp) fun i o' hi => ?_, fun u => ?_⟩, by simp [Act.put, h3], by simp [Act.put, h4]⟩)
  · rw [List.getElem?_map] at hi
    cases hq : s.objs[i]? with
    | none => rw [hq] at hi; cases hi
    | some x => rw [hq] at hi; obtain rfl := Option.some.inj hi; trivial
  · simp only [getE]
    split
    · rename_i e
      subst e
      rw [Act.getD_put a u _ u (by omega), if_pos rfl]
      exact .d _ _ q3
    · exact .unk _
end
end Go.AL
