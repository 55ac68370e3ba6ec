/- The abstract logic, E: trees of memory, their owners, and functions that write into them. -/
import Derived.Test.YtnhfakijgbkadaaGreatDoorCoreD
import Derived.Lib.SliceRun
import Derived.Deep.DeepHandedRow
import Derived.Deep.DeepWitnessRowRef
import Derived.LaidLaws
import Derived.LaidHandle
import Derived.FnData
set_option linter.unusedVariables false
set_option linter.unusedSimpArgs false
set_option linter.unusedSectionVars false
namespace Go.AL
open Go
set_option linter.unusedSectionVars false
variable [Inhabited Glob] [Inhabited NoLend]
set_option linter.unusedSimpArgs false
set_option linter.unusedVariables false
/-! ### Trees of memory -/
def Disj (a b : List Nat) : Prop := ∀ x ∈ a, x ∉ b
theorem Disj.symm {a b : List Nat} (h : Disj a b) : Disj b a := fun x hx hy => h x hy hx

/-- The first cells of a block. -/
def cellsAt (w : World) (b : Nat) (vs : List Value) : Prop := ∃ arr T, w.heap[b]? = some (.cells arr T (0, 0)) ∧ ∀ (j : Nat) v, vs[j]? = some v → arr[j]? = some v
theorem cellsAt.frame {w w' : World} {b : Nat} {vs : List Value} (h : cellsAt w b vs) (he : w'.heap[b]? = w.heap[b]?) : cellsAt w' b vs := by
  obtain ⟨arr, T, h1, h2⟩ := h
  exact ⟨arr, T, by rw [he]; exact h1, h2⟩
theorem cellsAt.cell {w : World} {b : Nat} {vs : List Value} (h : cellsAt w b vs) {j : Nat} {v : Value} (hv : vs[j]? = some v) : w.cell? ⟨b, j, none⟩ = some v := by
  obtain ⟨arr, T, h1, h2⟩ := h
  simp only [World.cell?, h1]
  simpa using h2 j v hv

mutual
/-- A value whose memory is a tree: these blocks, each once. -/
def TreeV (w : World) : DV → Value → List Nat → Prop
  | .int k n, v, bs => v = .int k n ∧ bs = []
  | .bool b, v, bs => v = .bool b ∧ bs = []
  | .str s, v, bs => (v = .string ⟨s.toArray⟩ ∧ s.length ≤ 9223372036854775807) ∧ bs = []
  | .sl sz xs _, v, bs => ∃ a cap, v = .slice a xs.length cap ∧ (xs.length ≤ cap ∧ cap ≤ 9223372036854775807 ∧ (a = none → cap = 0) ∧ (0 < cap → ∀ adr, a = some adr → adr.spot = none)) ∧
      ((xs = [] ∧ bs = []) ∨ ∃ b vs bs', a = some ⟨b, 0, none⟩ ∧ bs = b :: bs' ∧ b ∉ bs' ∧ cellsAt w b vs ∧ (∀ x ∈ xs, x.length = sz) ∧ TreeLL w xs vs bs')
  | .pin _ _, _, _ => False
def TreeLL (w : World) : List (List DV) → List Value → List Nat → Prop
  | [], vs, bs => vs = [] ∧ bs = []
  | x :: xs, vs, bs => ∃ v1 v2 b1 b2, vs = v1 ++ v2 ∧ bs = b1 ++ b2 ∧ Disj b1 b2 ∧ TreeL w x v1 b1 ∧ TreeLL w xs v2 b2
def TreeL (w : World) : List DV → List Value → List Nat → Prop
  | [], vs, bs => vs = [] ∧ bs = []
  | c :: cs, vs, bs => ∃ v v2 b1 b2, vs = v :: v2 ∧ bs = b1 ++ b2 ∧ Disj b1 b2 ∧ TreeV w c v b1 ∧ TreeL w cs v2 b2
end

theorem disj_app {a b c : List Nat} (h : Disj (a ++ b) c) : Disj a c ∧ Disj b c := ⟨fun x hx => h x (by simp [hx]), fun x hx => h x (by simp [hx])⟩
theorem disj_app' {a b c : List Nat} (h : Disj c (a ++ b)) : Disj c a ∧ Disj c b := ⟨fun x hx hy => h x hx (by simp [hy]), fun x hx hy => h x hx (by simp [hy])⟩
theorem app_disj {a b c : List Nat} (h : Disj a c) (h' : Disj b c) : Disj (a ++ b) c := fun x hx => by
  rcases List.mem_append.1 hx with h1 | h1
  · exact h x h1
  · exact h' x h1
theorem app_disj' {a b c : List Nat} (h : Disj c a) (h' : Disj c b) : Disj c (a ++ b) := (app_disj h.symm h'.symm).symm

theorem treeL_app {w : World} : ∀ {a c : List DV} {vs : List Value} {bs : List Nat}, TreeL w (a ++ c) vs bs ↔ ∃ v1 v2 b1 b2, vs = v1 ++ v2 ∧ bs = b1 ++ b2 ∧ Disj b1 b2 ∧ TreeL w a v1 b1 ∧ TreeL w c v2 b2
  | [], c, vs, bs => by
    constructor
    · intro h
      exact ⟨[], vs, [], bs, rfl, rfl, fun x hx => by simp at hx, ⟨rfl, rfl⟩, h⟩
    · rintro ⟨v1, v2, b1, b2, rfl, rfl, _, ⟨rfl, rfl⟩, h⟩
      exact h
  | x :: a, c, vs, bs => by
    simp only [List.cons_append, TreeL]
    constructor
    · rintro ⟨v, v2, b1, b2, rfl, rfl, hd, h1, h2⟩
      obtain ⟨u1, u2, c1, c2, rfl, rfl, hd2, h3, h4⟩ := treeL_app.1 h2
      exact ⟨v :: u1, u2, b1 ++ c1, c2, rfl, by simp, app_disj (disj_app' hd).2 hd2, ⟨v, u1, b1, c1, rfl, rfl, (disj_app' hd).1, h1, h3⟩, h4⟩
    · rintro ⟨v1, v2, b1, b2, rfl, rfl, hd, ⟨v, u1, c1, c2, rfl, rfl, hd2, h3, h4⟩, h5⟩
      exact ⟨v, u1 ++ v2, c1, c2 ++ b2, rfl, by simp, app_disj' hd2 (disj_app hd).1, h3, treeL_app.2 ⟨u1, v2, c2, b2, rfl, rfl, (disj_app hd).2, h4, h5⟩⟩

theorem treeLL_flat {w : World} : ∀ {xs : List (List DV)} {vs : List Value} {bs : List Nat}, TreeLL w xs vs bs ↔ TreeL w xs.flatten vs bs
  | [], vs, bs => by simp [TreeLL, TreeL]
  | x :: xs, vs, bs => by
    simp only [TreeLL, List.flatten_cons, treeL_app, treeLL_flat]

mutual
theorem TreeV.frame {w w' : World} : ∀ {c : DV} {v : Value} {bs : List Nat}, TreeV w c v bs → (∀ b ∈ bs, w'.heap[b]? = w.heap[b]?) → TreeV w' c v bs
  | .int _ _, _, _, h, _ => h
  | .bool _, _, _, h, _ => h
  | .str _, _, _, h, _ => h
  | .pin _ _, _, _, h, _ => h
  | .sl sz xs o, v, bs, h, hb => by
    simp only [TreeV] at h ⊢
    obtain ⟨a, cap, h1, h2, h3⟩ := h
    refine ⟨a, cap, h1, h2, ?_⟩
    rcases h3 with h3 | ⟨b, vs, bs', h3, rfl, h5, h6, h7, h8⟩
    · exact .inl h3
    · exact .inr ⟨b, vs, bs', h3, rfl, h5, h6.frame (hb b (by simp)), h7, TreeLL.frame h8 fun x hx => hb x (by simp [hx])⟩
theorem TreeLL.frame {w w' : World} : ∀ {c : List (List DV)} {v : List Value} {bs : List Nat}, TreeLL w c v bs → (∀ b ∈ bs, w'.heap[b]? = w.heap[b]?) → TreeLL w' c v bs
  | [], _, _, h, _ => h
  | x :: xs, v, bs, h, hb => by
    simp only [TreeLL] at h ⊢
    obtain ⟨v1, v2, b1, b2, rfl, rfl, hd, h1, h2⟩ := h
    exact ⟨v1, v2, b1, b2, rfl, rfl, hd, TreeL.frame h1 fun x hx => hb x (by simp [hx]), TreeLL.frame h2 fun x hx => hb x (by simp [hx])⟩
theorem TreeL.frame {w w' : World} : ∀ {c : List DV} {v : List Value} {bs : List Nat}, TreeL w c v bs → (∀ b ∈ bs, w'.heap[b]? = w.heap[b]?) → TreeL w' c v bs
  | [], _, _, h, _ => h
  | x :: xs, v, bs, h, hb => by
    simp only [TreeL] at h ⊢
    obtain ⟨v1, v2, b1, b2, rfl, rfl, hd, h1, h2⟩ := h
    exact ⟨v1, v2, b1, b2, rfl, rfl, hd, TreeV.frame h1 fun x hx => hb x (by simp [hx]), TreeL.frame h2 fun x hx => hb x (by simp [hx])⟩
end

mutual
/-- What a tree tells, where its blocks are known. -/
theorem TreeV.rep {w : World} {I : IH} {τ : TH} : ∀ {c : DV} {v : Value} {bs : List Nat}, TreeV w c v bs → (∀ b ∈ bs, ∀ o x, w.cell? ⟨b, o, none⟩ = some x → I b o = some x) → RepD I τ c.er v
  | .int k n, v, bs, h, _ => by simp only [TreeV] at h; obtain ⟨rfl, _⟩ := h; exact .int k n
  | .bool k, v, bs, h, _ => by simp only [TreeV] at h; obtain ⟨rfl, _⟩ := h; exact .bool k
  | .str s, v, bs, h, _ => by simp only [TreeV] at h; obtain ⟨⟨rfl, h2⟩, _⟩ := h; exact .str s h2
  | .pin _ _, _, _, h, _ => by simp only [TreeV] at h
  | .sl sz xs o, v, bs, h, hb => by
    simp only [TreeV] at h
    obtain ⟨a, cap, rfl, ⟨hc1, hc2, hc3, hc4⟩, h3⟩ := h
    simp only [DV.er]
    rcases h3 with ⟨rfl, rfl⟩ | ⟨b, vs, bs', rfl, rfl, h5, h6, h7, h8⟩
    · exact .sl sz [] .no a cap (fun _ => undef) (by simp) hc1 hc2 hc3 hc4 (by simp) (by simp) trivial
    · have hl : (erLL xs).length = xs.length := by rw [erLL_eq]; simp
      have hr : RepL I τ (erLL xs).flatten vs := TreeLL.rep h8 fun x hx => hb x (by simp [hx])
      have := RepD_of_flat (I := I) (τ := τ) (sz := sz) (zs := erLL xs) (own := .no) (adr := ⟨b, 0, none⟩) (cap := cap) (vs := vs) ?_ rfl (by rw [hl]; exact hc1) hc2 ?_ hr trivial
      · rw [hl] at this; exact this
      · intro x hx
        rw [erLL_eq] at hx
        obtain ⟨x', hx', rfl⟩ := List.mem_map.1 hx
        rw [erL_eq, List.length_map]
        exact h7 x' hx'
      · intro j v hv
        have := h6.cell hv
        rw [Nat.zero_add]
        exact hb b (by simp) j v this
theorem TreeLL.rep {w : World} {I : IH} {τ : TH} : ∀ {c : List (List DV)} {v : List Value} {bs : List Nat}, TreeLL w c v bs → (∀ b ∈ bs, ∀ o x, w.cell? ⟨b, o, none⟩ = some x → I b o = some x) → RepL I τ (erLL c).flatten v
  | [], _, _, h, _ => by simp only [TreeLL] at h; obtain ⟨rfl, _⟩ := h; simpa [erLL] using RepL.nil I τ
  | x :: xs, v, bs, h, hb => by
    simp only [TreeLL] at h
    obtain ⟨v1, v2, b1, b2, rfl, rfl, hd, h1, h2⟩ := h
    simp only [erLL, List.flatten_cons]
    exact (TreeL.rep h1 fun x hx => hb x (by simp [hx])).append (TreeLL.rep h2 fun x hx => hb x (by simp [hx]))
theorem TreeL.rep {w : World} {I : IH} {τ : TH} : ∀ {c : List DV} {v : List Value} {bs : List Nat}, TreeL w c v bs → (∀ b ∈ bs, ∀ o x, w.cell? ⟨b, o, none⟩ = some x → I b o = some x) → RepL I τ (erL c) v
  | [], _, _, h, _ => by simp only [TreeL] at h; obtain ⟨rfl, _⟩ := h; simpa [erL] using RepL.nil I τ
  | x :: xs, v, bs, h, hb => by
    simp only [TreeL] at h
    obtain ⟨v1, v2, b1, b2, rfl, rfl, hd, h1, h2⟩ := h
    simp only [erL]
    exact RepL.cons (TreeV.rep h1 fun x hx => hb x (by simp [hx])) (TreeL.rep h2 fun x hx => hb x (by simp [hx]))
end

/-! ### Who owns all of a value -/
mutual
/-- The tokens of a value that owns all its memory. -/
def ownD : DV → List Nat → Prop
  | .int _ _, ts => ts = []
  | .bool _, ts => ts = []
  | .str _, ts => ts = []
  | .sl _ xs own, ts => (xs = [] ∧ ts = []) ∨ ∃ t ts', own = .tok t ∧ ts = t :: ts' ∧ t ∉ ts' ∧ ownLL xs ts'
  | .pin _ _, _ => False
def ownLL : List (List DV) → List Nat → Prop
  | [], ts => ts = []
  | x :: xs, ts => ∃ t1 t2, ts = t1 ++ t2 ∧ Disj t1 t2 ∧ ownL x t1 ∧ ownLL xs t2
def ownL : List DV → List Nat → Prop
  | [], ts => ts = []
  | c :: cs, ts => ∃ t1 t2, ts = t1 ++ t2 ∧ Disj t1 t2 ∧ ownD c t1 ∧ ownL cs t2
end

/-- Blocks that tokens stand for. -/
def ofToks (τ : TH) (ts bs : List Nat) : Prop := ∀ b ∈ bs, ∃ t ∈ ts, ∃ e r, τ t = some (b, e, r)
theorem ofToks.disj {τ : TH} {toks ts us bs cs : List Nat} (hd : Disj ts us) (htk : ∀ t ∈ toks, ∀ u ∈ toks, ∀ b e r b' e' r', τ t = some (b, e, r) → τ u = some (b', e', r') → b = b' → t = u)
    (h1 : ∀ t ∈ ts, t ∈ toks) (h2 : ∀ t ∈ us, t ∈ toks) (hb : ofToks τ ts bs) (hc : ofToks τ us cs) : Disj bs cs := fun x hx hy => by
  obtain ⟨t, ht, e, r, h3⟩ := hb x hx
  obtain ⟨u, hu, e', r', h4⟩ := hc x hy
  have := htk t (h1 t ht) u (h2 u hu) _ _ _ _ _ _ h3 h4 rfl
  subst this
  exact hd t ht hu

section
variable {E : Ent} {objs : List AO} {toks : List Nat} {nt : Nat} {I : IH} {τ : TH} {ρ : Nat → Nat} {w : World}
mutual
theorem tree_of {c : DV} (h : St E objs toks nt I τ ρ w) : ∀ {v : Value} {ts : List Nat}, RepD I τ c v → ownD c ts → (∀ t ∈ ts, t ∈ toks) → ∃ bs, TreeV w c v bs ∧ ofToks τ ts bs := by
  intro v ts hr ho ht
  cases c with
  | int k n => cases hr; exact ⟨[], ⟨rfl, rfl⟩, fun b hb => by simp at hb⟩
  | bool b => cases hr; exact ⟨[], ⟨rfl, rfl⟩, fun b hb => by simp at hb⟩
  | str s => cases hr with | str _ hs => exact ⟨[], ⟨⟨rfl, hs⟩, rfl⟩, fun b hb => by simp at hb⟩
  | pin c v => simp only [ownD] at ho
  | sl sz xs own =>
    simp only [ownD] at ho
    have hr0 := hr
    cases hr with
    | sl _ _ _ a cap vals hsz hcap hmax hnil hadr hI hrep hown =>
    rcases ho with ⟨rfl, rfl⟩ | ⟨t, ts', rfl, rfl, htn, hol⟩
    · exact ⟨[], ⟨a, cap, rfl, ⟨hcap, hmax, hnil, hadr⟩, .inl ⟨rfl, rfl⟩⟩, fun b hb => by simp at hb⟩
    · rcases hown with h0 | ⟨b, hb, rfl⟩
      · have hx : xs = [] := List.eq_nil_of_length_eq_zero (by omega)
        subst hx
        exact ⟨[], ⟨a, cap, rfl, ⟨hcap, hmax, hnil, hadr⟩, .inl ⟨rfl, rfl⟩⟩, fun b hb => by simp at hb⟩
      · obtain ⟨_, vs, hvl, hvI, hvr⟩ := cells_flat hr0
        obtain ⟨_, g⟩ := h.tok t (ht t (by simp))
        obtain ⟨_, ⟨cur, T, g2, _⟩, _, _⟩ := g _ _ _ hb
        obtain ⟨bs', k1, k2⟩ := trees_of h hvr hol fun u hu => ht u (by simp [hu])
        refine ⟨b :: bs', ⟨some ⟨b, 0, none⟩, cap, rfl, ⟨hcap, hmax, hnil, hadr⟩, .inr ⟨b, vs, bs', rfl, rfl, fun hin => ?_, ⟨cur, T, g2, fun j v hv => ?_⟩, hsz, k1⟩⟩, fun x hx => ?_⟩
        · obtain ⟨u, hu, e, r, h3⟩ := k2 b hin
          have := h.tokd t (ht t (by simp)) u (ht u (by simp [hu])) _ _ _ _ _ _ hb h3 rfl
          subst this
          exact htn hu
        · have h1 := h.iok _ _ _ (hvI j v hv)
          simp only [World.cell?, g2, Nat.zero_add] at h1
          simpa using h1
        · simp only [List.mem_cons] at hx
          rcases hx with rfl | hx
          · exact ⟨t, by simp, _, _, hb⟩
          · obtain ⟨u, hu, e, r, h3⟩ := k2 x hx
            exact ⟨u, by simp [hu], e, r, h3⟩
theorem trees_of {xs : List (List DV)} (h : St E objs toks nt I τ ρ w) : ∀ {vs : List Value} {ts : List Nat}, RepL I τ xs.flatten vs → ownLL xs ts → (∀ t ∈ ts, t ∈ toks) → ∃ bs, TreeLL w xs vs bs ∧ ofToks τ ts bs := by
  intro vs ts hr ho ht
  cases xs with
  | nil =>
    have : vs = [] := by have := hr.1; simpa using this.symm
    exact ⟨[], ⟨this, rfl⟩, fun b hb => by simp at hb⟩
  | cons x xs =>
    simp only [ownLL] at ho
    obtain ⟨t1, t2, rfl, hd, h1, h2⟩ := ho
    simp only [List.flatten_cons] at hr
    have ha : RepL I τ x (vs.take x.length) := by have := hr.take x.length; rwa [List.take_left'] at this; rfl
    have hb : RepL I τ xs.flatten (vs.drop x.length) := by have := hr.drop x.length; rwa [List.drop_left'] at this; rfl
    obtain ⟨b1, k1, k2⟩ := treel_of h ha h1 fun u hu => ht u (by simp [hu])
    obtain ⟨b2, k3, k4⟩ := trees_of h hb h2 fun u hu => ht u (by simp [hu])
    refine ⟨b1 ++ b2, ⟨_, _, b1, b2, (List.take_append_drop x.length vs).symm, rfl, ofToks.disj hd h.tokd (fun u hu => ht u (by simp [hu])) (fun u hu => ht u (by simp [hu])) k2 k4, k1, k3⟩, fun b hb => ?_⟩
    rcases List.mem_append.1 hb with hb | hb
    · obtain ⟨u, hu, z⟩ := k2 b hb; exact ⟨u, by simp [hu], z⟩
    · obtain ⟨u, hu, z⟩ := k4 b hb; exact ⟨u, by simp [hu], z⟩
theorem treel_of {xs : List DV} (h : St E objs toks nt I τ ρ w) : ∀ {vs : List Value} {ts : List Nat}, RepL I τ xs vs → ownL xs ts → (∀ t ∈ ts, t ∈ toks) → ∃ bs, TreeL w xs vs bs ∧ ofToks τ ts bs := by
  intro vs ts hr ho ht
  cases xs with
  | nil =>
    have : vs = [] := by have := hr.1; simpa using this.symm
    exact ⟨[], ⟨this, rfl⟩, fun b hb => by simp at hb⟩
  | cons x xs =>
    simp only [ownL] at ho
    obtain ⟨t1, t2, rfl, hd, h1, h2⟩ := ho
    obtain ⟨v, us, rfl, hx, hxs⟩ := repL_one hr
    obtain ⟨b1, k1, k2⟩ := tree_of h hx h1 fun u hu => ht u (by simp [hu])
    obtain ⟨b2, k3, k4⟩ := treel_of h hxs h2 fun u hu => ht u (by simp [hu])
    refine ⟨b1 ++ b2, ⟨v, us, b1, b2, rfl, rfl, ofToks.disj hd h.tokd (fun u hu => ht u (by simp [hu])) (fun u hu => ht u (by simp [hu])) k2 k4, k1, k3⟩, fun b hb => ?_⟩
    rcases List.mem_append.1 hb with hb | hb
    · obtain ⟨u, hu, z⟩ := k2 b hb; exact ⟨u, by simp [hu], z⟩
    · obtain ⟨u, hu, z⟩ := k4 b hb; exact ⟨u, by simp [hu], z⟩
end
end

mutual
/-- A value that owns its memory is known by its own blocks alone. -/
theorem RepD.only {I I' : IH} {τ : TH} {c : DV} : ∀ {v : Value} {ts : List Nat}, RepD I τ c v → ownD c ts → (∀ t ∈ ts, ∀ b e r, τ t = some (b, e, r) → ∀ o, I' b o = I b o) → RepD I' τ c v := by
  intro v ts hr ho ht
  cases c with
  | int k n => cases hr; exact .int k n
  | bool b => cases hr; exact .bool b
  | str s => cases hr with | str _ hs => exact .str s hs
  | pin c v => simp only [ownD] at ho
  | sl sz xs own =>
    simp only [ownD] at ho
    have hr0 := hr
    cases hr with
    | sl _ _ _ a cap vals hsz hcap hmax hnil hadr hI hrep hown =>
    rcases ho with ⟨rfl, rfl⟩ | ⟨t, ts', rfl, rfl, htn, hol⟩
    · exact .sl sz [] own a cap vals (by simp) hcap hmax hnil hadr (by simp) (by simp) hown
    · rcases hown with h0 | ⟨b, hb, rfl⟩
      · have hx : xs = [] := List.eq_nil_of_length_eq_zero (by omega)
        subst hx
        exact .sl sz [] _ a cap vals (by simp) hcap hmax hnil hadr (by simp) (by simp) (.inl h0)
      · obtain ⟨_, vs, hvl, hvI, hvr⟩ := cells_flat hr0
        have := RepD_of_flat (I := I') (τ := τ) (sz := sz) (zs := xs) (own := .tok t) (adr := ⟨b, 0, none⟩) (cap := cap) (vs := vs) hsz rfl hcap hmax (fun j v hv => by
          have h1 := hvI j v hv
          rw [← h1]
          exact ht t (by simp) b _ _ hb _) (RepLL.only hvr hol fun u hu => ht u (by simp [hu])) (.inr ⟨b, hb, rfl⟩)
        exact this
theorem RepLL.only {I I' : IH} {τ : TH} {xs : List (List DV)} : ∀ {vs : List Value} {ts : List Nat}, RepL I τ xs.flatten vs → ownLL xs ts → (∀ t ∈ ts, ∀ b e r, τ t = some (b, e, r) → ∀ o, I' b o = I b o) → RepL I' τ xs.flatten vs := by
  intro vs ts hr ho ht
  cases xs with
  | nil =>
    have : vs = [] := by have := hr.1; simpa using this.symm
    subst this
    exact RepL.nil I' τ
  | cons x xs =>
    simp only [ownLL] at ho
    obtain ⟨t1, t2, rfl, hd, h1, h2⟩ := ho
    simp only [List.flatten_cons] at hr ⊢
    have ha : RepL I τ x (vs.take x.length) := by have := hr.take x.length; rwa [List.take_left'] at this; rfl
    have hb : RepL I τ xs.flatten (vs.drop x.length) := by have := hr.drop x.length; rwa [List.drop_left'] at this; rfl
    have := (RepL.only ha h1 fun u hu => ht u (by simp [hu])).append (RepLL.only hb h2 fun u hu => ht u (by simp [hu]))
    rwa [List.take_append_drop] at this
theorem RepL.only {I I' : IH} {τ : TH} {xs : List DV} : ∀ {vs : List Value} {ts : List Nat}, RepL I τ xs vs → ownL xs ts → (∀ t ∈ ts, ∀ b e r, τ t = some (b, e, r) → ∀ o, I' b o = I b o) → RepL I' τ xs vs := by
  intro vs ts hr ho ht
  cases xs with
  | nil =>
    have : vs = [] := by have := hr.1; simpa using this.symm
    subst this
    exact RepL.nil I' τ
  | cons x xs =>
    simp only [ownL] at ho
    obtain ⟨t1, t2, rfl, hd, h1, h2⟩ := ho
    obtain ⟨v, us, rfl, hx, hxs⟩ := repL_one hr
    exact RepL.cons (RepD.only hx h1 fun u hu => ht u (by simp [hu])) (RepL.only hxs h2 fun u hu => ht u (by simp [hu]))
end
end Go.AL

namespace Go.AL
open Go
set_option linter.unusedSectionVars false
variable [Inhabited Glob] [Inhabited NoLend]
set_option linter.unusedSimpArgs false
set_option linter.unusedVariables false
/-! ### A made slice becomes known, and keeps its owner -/
theorem awp_freezeT {P : Program} {E : Ent} {Q : Exit → AS → Prop} {s : AS} {c : Code} (t : Nat) (Lv : List Nat) {kept : List (Nat × AV)} {o n sz : Nat} {cs : List DV} (pre : List AO) (ht : getE s.env t = .arr o n sz) (ho : s.objs = pre ++ [.cells cs]) (hop : o = pre.length)
    (hlen : cs.length = n * sz) (hkept : pickE s.env Lv = kept) (hk : E.k ≤ pre.length) (hsc : (kept.all fun p => p.2.scop pre.length) = true)
    (h : AWp P E c Q ⟨(t, .d (.sl sz (chunk sz n cs) (.tok s.nt))) :: kept, pre, s.nt :: s.toks, s.nt + 1⟩) : AWp P E c Q s := by
  refine awp_weak (fun a w hs => ?_) h
  obtain ⟨⟨I, τ, ρ, h1, h2⟩, h3, h4⟩ := hs
  subst hop
  rw [ho] at h1 h2
  have hget : (pre ++ [AO.cells cs])[pre.length]? = some (.cells cs) := by simp
  obtain ⟨vs0, T0, hh1, hh2⟩ := h1.obj pre.length _ hget
  have hfr := h1.fresh pre.length hk (by simp)
  have hne : ∀ i, i < pre.length → ρ i ≠ ρ pre.length := fun i hi e => by
    have := h1.inj i pre.length (by simp; omega) (by simp) e
    omega
  have htk : ∀ t ∈ s.toks, ∀ b' e' r', τ t = some (b', e', r') → b' ≠ ρ pre.length := fun t ht b' e' r' hb e => by
    obtain ⟨_, g⟩ := h1.tok t ht
    exact (g _ _ _ hb).2.2.2 pre.length (by simp) e.symm
  obtain ⟨vs, g1, g2, g3⟩ := h1.freeze hk
  have hvl : vs.length = n * sz := by rw [← g1.1]; exact hlen
  obtain ⟨k1, k2⟩ := g2.newTok (some (ρ pre.length, n * sz, n * sz)) (fun b e r hb => by
    simp only [Option.some.injEq, Prod.mk.injEq] at hb
    obtain ⟨rfl, rfl, rfl⟩ := hb
    refine ⟨.inl hfr, ⟨_, _, hh1, by have := hh2.1; simp; omega⟩, fun o ho => ?_, hne, htk⟩
    simp [pub, List.getElem?_eq_none_iff]; omega)
  refine ⟨⟨_, _, ρ, k1, fun u => ?_⟩, h3, h4⟩
  have hx : Ext2 I τ ρ pre.length (pub I (ρ pre.length) vs) (updT τ s.nt (some (ρ pre.length, n * sz, n * sz))) ρ pre.length := ⟨⟨fun b o v hv => k2.i _ _ _ (g3.i _ _ _ hv), fun t v hv => k2.t _ _ (g3.t _ _ hv)⟩, Nat.le_refl _, fun _ _ => rfl⟩
  simp only [getE]
  split
  · rename_i e
    subst e
    have hv := h2 u
    rw [ht] at hv
    obtain ⟨e1, _, e3⟩ := rep_arr hv
    rw [e1]
    have hf := RepD_full (I := pub I (ρ pre.length) vs) (τ := updT τ s.nt (some (ρ pre.length, n * sz, n * sz))) (ρ pre.length) sz n cs vs (g1.mono hx.toExt) hlen e3 (fun j v hj => by simp [pub, hj])
    generalize hv2 : Value.slice (some ⟨ρ pre.length, 0, none⟩) n n = vv at hf
    have hcl := chunk_length sz n cs
    cases hf with
    | sl _ _ _ a cap vals hsz hcap hmax hnil hadr hI hrep hown =>
      simp only [Value.slice.injEq] at hv2
      obtain ⟨rfl, hn1, rfl⟩ := hv2
      exact .d _ _ (.sl sz _ _ _ n vals hsz hcap hmax hnil hadr hI hrep (.inr ⟨_, by rw [updT_new, hcl], rfl⟩))
  · have key : ∀ (L : List Nat) (kept : List (Nat × AV)), pickE s.env L = kept → (kept.all fun p => p.2.scop pre.length) = true → RepA (pub I (ρ pre.length) vs) (updT τ s.nt (some (ρ pre.length, n * sz, n * sz))) ρ pre.length (getE kept u) (a.tmps.getD u undef) := by
      intro L
      induction L with
      | nil => rintro _ rfl _; exact .unk _
      | cons x L ih =>
        rintro _ rfl hs
        simp only [pickE, List.all_cons, Bool.and_eq_true] at hs
        simp only [pickE, getE]
        split
        · rename_i e
          subst e
          exact ((h2 u).scop hs.1).mono hx
        · exact ih _ rfl hs.2
    exact key Lv kept hkept hsc

/-! ### From here on all that there is stays as it is -/
def DV.pn (v : Value) : DV → DV
  | .sl sz xs _ => .pin (.sl sz (erLL xs) .no) v
  | .pin c _ => .pin c.er v
  | c => c
def pnL (g : Nat → Value) : Nat → List DV → List DV
  | _, [] => []
  | i, c :: cs => c.pn (g i) :: pnL g (i + 1) cs
def AV.pn (g : Nat → Value) : AV → AV
  | .d c => .d (c.pn (g 0))
  | .agg cs => .agg (pnL g 0 cs)
  | .ptr o off => .ptr o off
  | _ => .unk
def AO.pn (g : Nat → Value) : AO → AO
  | .cells cs => .cells (pnL g 0 cs)
  | _ => .gone
def pnE (g : Nat → Nat → Value) : List (Nat × AV) → List (Nat × AV)
  | [] => []
  | p :: l => (p.1, p.2.pn (g p.1)) :: pnE g l
def pnO (g : Nat → Nat → Value) : Nat → List AO → List AO
  | _, [] => []
  | i, o :: l => o.pn (g i) :: pnO g (i + 1) l
/-- What a pin tells, by what was known. -/
def DV.pins (I : IH) : DV → Prop
  | .pin c v => RepD I (fun _ => none) c v
  | _ => True
def pinsL (I : IH) : List DV → Prop
  | [] => True
  | c :: cs => c.pins I ∧ pinsL I cs
def AV.pins (I : IH) : AV → Prop
  | .d c => c.pins I
  | .agg cs => pinsL I cs
  | _ => True
def AO.pins (I : IH) : AO → Prop
  | .cells cs => pinsL I cs
  | _ => True
def pinsE (I : IH) : List (Nat × AV) → Prop
  | [] => True
  | p :: l => p.2.pins I ∧ pinsE I l
def pinsO (I : IH) : List AO → Prop
  | [] => True
  | o :: l => o.pins I ∧ pinsO I l

theorem RepD.noTok {I : IH} {τ τ' : TH} : ∀ {c : DV} {v : Value}, RepD I τ c v → RepD I τ' c.er v := by
  intro c v h
  induction h with
  | int k n => exact .int k n
  | bool b => exact .bool b
  | str s hs => exact .str s hs
  | pin c v _ ih => exact ih
  | sl sz xs own a cap vals hsz hcap hmax hnil hadr hI _ hown ih =>
    have hl : (erLL xs).length = xs.length := by rw [erLL_eq]; simp
    have hget : ∀ (i : Nat) x (j : Nat) c, (erLL xs)[i]? = some x → x[j]? = some c → ∃ x' c', xs[i]? = some x' ∧ x'[j]? = some c' ∧ c = c'.er := by
      intro i x j c hx hc
      rw [erLL_eq, List.getElem?_map, Option.map_eq_some_iff] at hx
      obtain ⟨x', hx', rfl⟩ := hx
      rw [erL_eq, List.getElem?_map, Option.map_eq_some_iff] at hc
      obtain ⟨c', hc', rfl⟩ := hc
      exact ⟨x', c', hx', hc', rfl⟩
    have := RepD.sl (I := I) (τ := τ') sz (erLL xs) .no a cap vals ?_ (by rw [hl]; exact hcap) hmax hnil hadr ?_ ?_ trivial
    · rw [hl] at this
      exact this
    · intro x hx
      rw [erLL_eq] at hx
      obtain ⟨x', hx', rfl⟩ := List.mem_map.1 hx
      rw [erL_eq, List.length_map]
      exact hsz x' hx'
    · intro adr ha i x j c hx hc
      obtain ⟨x', c', h1, h2, _⟩ := hget i x j c hx hc
      exact hI adr ha i x' j c' h1 h2
    · intro i x j c hx hc
      obtain ⟨x', c', h1, h2, rfl⟩ := hget i x j c hx hc
      exact ih i x' j c' h1 h2
theorem RepD.pn {I : IH} {τ : TH} {c : DV} {v : Value} (h : RepD I τ c v) : RepD I (fun _ => none) (c.pn v) v := by
  cases c with
  | int k n => cases h; exact .int k n
  | bool b => cases h; exact .bool b
  | str s => cases h with | str _ hs => exact .str s hs
  | sl sz xs own => exact .pin _ _ h.noTok
  | pin c u =>
    cases h with
    | pin _ _ h => exact .pin _ _ h.noTok
theorem RepL.pn {I : IH} {τ : TH} {g : Nat → Value} : ∀ {cs : List DV} {vs : List Value} {i : Nat}, RepL I τ cs vs → (∀ (j : Nat) v, vs[j]? = some v → g (i + j) = v) → RepL I (fun _ => none) (pnL g i cs) vs
  | [], vs, i, h, _ => by
    have : vs = [] := by have := h.1; simpa using this.symm
    subst this
    exact RepL.nil I _
  | c :: cs, vs, i, h, hg => by
    obtain ⟨v, us, rfl, hx, hxs⟩ := repL_one h
    have h0 := hg 0 v (by simp)
    rw [Nat.add_zero] at h0
    simp only [pnL, h0]
    exact RepL.cons hx.pn (RepL.pn hxs fun j u hu => by have := hg (j + 1) u (by simpa using hu); rwa [show i + 1 + j = i + (j + 1) by omega])
theorem RepA.pn {I : IH} {τ : TH} {ρ : Nat → Nat} {n : Nat} {v : AV} {x : Value} {g : Nat → Value} (h : RepA I τ ρ n v x) (hg : ∀ (j : Nat) u, x.cells.toList[j]? = some u → g j = u) : RepA I (fun _ => none) ρ n (v.pn g) x := by
  cases h with
  | d c v hd =>
    have h0 : g 0 = x := hg 0 x (by rw [hd.cells]; rfl)
    simp only [AV.pn, h0]
    exact .d _ _ hd.pn
  | agg cs vs hl => exact .agg _ _ (RepL.pn hl fun j u hu => by rw [Nat.zero_add]; exact hg j u hu)
  | ptr o off ho => exact .ptr o off ho
  | _ => exact .unk _
theorem RepD.pinsOf {I : IH} {c : DV} {v : Value} (h : RepD I (fun _ => none) c v) : c.pins I := by
  cases h with
  | pin c v h => exact h
  | _ => trivial
theorem RepL.pinsOf {I : IH} : ∀ {cs : List DV} {vs : List Value}, RepL I (fun _ => none) cs vs → pinsL I cs
  | [], _, _ => trivial
  | c :: cs, vs, h => by
    obtain ⟨v, us, rfl, hx, hxs⟩ := repL_one h
    exact ⟨hx.pinsOf, RepL.pinsOf hxs⟩
theorem RepA.pinsOf {I : IH} {ρ : Nat → Nat} {n : Nat} {v : AV} {x : Value} (h : RepA I (fun _ => none) ρ n v x) : v.pins I := by
  cases h with
  | d c v hd => exact hd.pinsOf
  | agg cs vs hl => exact hl.pinsOf
  | _ => trivial

/-- The answer stands in a slot. -/
def QB (rt : Nat) : Exit → AS → Prop
  | .normal, s | .ret, s => getE s.env rt = .d (.bool true)
  | _, _ => False

theorem pnO_get {g : Nat → Nat → Value} : ∀ {l : List AO} {i j : Nat} {o : AO}, (pnO g i l)[j]? = some o → ∃ o', l[j]? = some o' ∧ o = o'.pn (g (i + j))
  | [], i, j, o, h => by simp [pnO] at h
  | x :: l, i, 0, o, h => by simp [pnO] at h; exact ⟨x, rfl, h.symm⟩
  | x :: l, i, j + 1, o, h => by
    simp only [pnO, List.getElem?_cons_succ] at h
    obtain ⟨o', h1, h2⟩ := pnO_get h
    exact ⟨o', by simpa using h1, by rw [h2, show i + 1 + j = i + (j + 1) by omega]⟩
theorem pnO_len {g : Nat → Nat → Value} : ∀ {l : List AO} {i : Nat}, (pnO g i l).length = l.length
  | [], _ => rfl
  | x :: l, i => by simp [pnO, pnO_len (l := l)]
theorem pinsO_of {I : IH} : ∀ {l : List AO}, (∀ (i : Nat) o, l[i]? = some o → o.pins I) → pinsO I l
  | [], _ => trivial
  | x :: l, h => ⟨h 0 x rfl, pinsO_of fun i o ho => h (i + 1) o (by simpa using ho)⟩

/-- All that there is gets its pins: a new entry. -/
theorem awp_pin {P : Program} {TT : Tab P} {E : Ent} {s : AS} {c : Code} {res : List ResultVar} {nt0 : Nat} (rt : Nat) (L : List Nat) {kept : List (Nat × AV)} {obs : List AO} (hres : res = [.tmp rt]) (hkept : pickE s.env L = kept) (hobs : s.objs = obs) (hk : E.k = 0)
    (hob : (obs.all fun o => match o with | .cells _ => true | _ => false) = true)
    (h : ∀ (E2 : Ent) (ge go : Nat → Nat → Value), E2.k = obs.length → pinsE E2.I0 (pnE ge kept) → pinsO E2.I0 (pnO go 0 obs) → AWp P E2 c (QB rt) ⟨pnE ge kept, pnO go 0 obs, [], 0⟩) :
    AWp P E c (RetQ TT res ([] : List AO).length nt0 fun _ v o t _ => v = .d (.bool true) ∧ o = [] ∧ t = []) s := by
  intro hok a w hs
  obtain ⟨⟨I, τ, ρ, h1, h2⟩, h3, h4⟩ := hs
  subst hobs hkept hres
  let ge : Nat → Nat → Value := fun t j => ((a.tmps.getD t undef).cells.toList[j]?).getD undef
  let go : Nat → Nat → Value := fun i j => match w.heap[ρ i]? with
    | some (.cells arr _ _) => (arr[j]?).getD undef
    | _ => undef
  let E2 : Ent := { w0 := w, I0 := I, ρ0 := ρ, τ0 := fun _ => none, k := s.objs.length, nt0 := 0, n := E.n, lb := fun _ => False, gs := E.gs, lbk := fun _ _ h => h, gl := h1.glob, gb := fun b hb => ⟨Nat.lt_of_lt_of_le (E.gb b hb).1 h1.size, fun h => h, fun i hi => h1.gsne hb hi⟩ }
  have hobj : ∀ (i : Nat) o, (pnO go 0 s.objs)[i]? = some o → RepO I (fun _ => none) o (w.heap[ρ i]?) := by
    intro i o ho
    obtain ⟨o', g1, rfl⟩ := pnO_get ho
    have hx := h1.obj i o' g1
    have hc := List.all_eq_true.1 hob o' (List.mem_of_getElem? g1)
    cases o' with
    | cells cs =>
      obtain ⟨vs, T, e1, e2⟩ := hx
      refine ⟨vs, T, e1, RepL.pn e2 fun j v hv => ?_⟩
      simp only [go, Nat.zero_add, e1]
      simp [hv]
    | map es => cases hc
    | gone => cases hc
  have hSt : St E2 (pnO go 0 s.objs) [] 0 I (fun _ => none) ρ w := by
    refine ⟨h1.iok, hobj, fun i hi => h1.objI i (by rwa [pnO_len] at hi), fun i j hi hj => h1.inj i j (by rwa [pnO_len] at hi) (by rwa [pnO_len] at hj), fun t ht => by simp at ht, fun t ht => by simp at ht, rfl, rfl, rfl, Nat.le_refl _, fun _ _ _ => rfl, fun _ _ _ => rfl, fun _ h => h.elim, fun _ _ => rfl, ?_, fun _ _ => rfl, ?_, Nat.le_refl _, fun b o v hv => h1.lt_of_I hv, fun _ _ => rfl⟩
    · intro i hi hi'
      rw [pnO_len] at hi'
      exact absurd hi' (Nat.not_lt.2 hi)
    · rw [pnO_len]; exact Nat.le_refl _
  have hA : ∀ t, RepA I (fun _ => none) ρ (pnO go 0 s.objs).length (getE (pnE ge (pickE s.env L)) t) (a.tmps.getD t undef) := by
    intro t
    rw [pnO_len]
    have key : ∀ L : List Nat, RepA I (fun _ => none) ρ s.objs.length (getE (pnE ge (pickE s.env L)) t) (a.tmps.getD t undef) := by
      intro L
      induction L with
      | nil => exact .unk _
      | cons x L ih =>
        simp only [pickE, pnE, getE]
        split
        · rename_i e
          subst e
          exact (h2 t).pn fun j u hu => by show (_[j]?).getD undef = u; rw [hu]; rfl
        · exact ih
    exact key L
  have hpE : pinsE I (pnE ge (pickE s.env L)) := by
    have key : ∀ L : List Nat, pinsE I (pnE ge (pickE s.env L)) := by
      intro L
      induction L with
      | nil => trivial
      | cons x L ih => exact ⟨((h2 x).pn fun j u hu => by show (_[j]?).getD undef = u; rw [hu]; rfl).pinsOf, ih⟩
    exact key L
  have hpO : pinsO I (pnO go 0 s.objs) := pinsO_of fun i o ho => by
    have hx := hobj i o ho
    cases o with
    | cells cs => obtain ⟨vs, T, _, e2⟩ := hx; exact e2.pinsOf
    | _ => trivial
  refine Go.wp_mono (h E2 ge go rfl hpE hpO hok a w ⟨⟨I, _, ρ, hSt, hA⟩, h3, h4⟩) fun e a' w' ⟨s', hq, ⟨⟨I', τ', ρ', g1, g2⟩, g3, g4⟩⟩ => ?_
  have hb : getE s'.env rt = .d (.bool true) ∧ (e = .normal ∨ e = .ret) := by
    cases e with
    | normal => exact ⟨hq, .inl rfl⟩
    | ret => exact ⟨hq, .inr rfl⟩
    | _ => exact hq.elim
  refine ⟨⟨[(rt, .d (.bool true))], [], [], s.nt⟩, ?_, ⟨⟨I', τ, ρ', ?_, fun t => ?_⟩, g3, g4⟩⟩
  · have : ∃ vs m toks, resList TT ⟨[(rt, .d (.bool true))], [], [], s.nt⟩ [.tmp rt] = some vs ∧ 0 ≤ m ∧ (∀ t ∈ toks, t ∈ ([] : List Nat)) ∧ (resV vs).scop (([] : List AO).take m).length = true ∧ (resV vs = .d (.bool true) ∧ ([] : List AO).take m = [] ∧ toks = []) :=
      ⟨[.d (.bool true)], 0, [], by simp [resList, getE], Nat.le_refl _, by simp, rfl, rfl, rfl, rfl⟩
    rcases hb.2 with rfl | rfl
    · exact this
    · exact this
  · refine ⟨g1.iok, fun i o ho => by simp at ho, fun i hi => by simp at hi, fun i j hi => by simp at hi, fun t ht => by simp at ht, fun t ht => by simp at ht, g1.os.trans h1.os, g1.tape.trans h1.tape, g1.output.trans h1.output, Nat.le_trans h1.size g1.size, fun b hb hi => ?_, fun b hb o => ?_, fun b hb => absurd hb (E.nolb b), fun i hi => by omega, fun i hi hj => by simp at hj, h1.tau, by simp [hk], h1.ntle, h1.i0, h1.tn⟩
    · have hbw : b < w.heap.size := Nat.lt_of_lt_of_le hb h1.size
      refine (g1.blk b hbw ⟨fun h => h, fun i hi e => ?_⟩).trans (h1.blk b hb hi)
      have := h1.fresh i (by omega) hi
      have e' : ρ i = b := e
      omega
    · exact (g1.ifr b ⟨Nat.lt_of_lt_of_le hb.1 h1.size, fun h => h⟩ o).trans (h1.ifr b hb o)
  · simp only [getE]
    split
    · rename_i e
      subst e
      have := g2 t
      rw [hb.1] at this
      rw [rep_bool this]
      exact .d _ _ (.bool true)
    · exact .unk _
attribute [go_sem] pickE pnE pnO DV.pn pnL AV.pn AO.pn
end Go.AL

namespace Go.AL
open Go
set_option linter.unusedSectionVars false
variable [Inhabited Glob] [Inhabited NoLend]
set_option linter.unusedSimpArgs false
set_option linter.unusedVariables false
/-! ### A call that writes into memory that it was handed -/
structure FrameW (F : List Nat) (w w' : World) : Prop where
  size : w.heap.size ≤ w'.heap.size
  same : ∀ b, b < w.heap.size → b ∉ F → w'.heap[b]? = w.heap[b]?
  os : w'.os = w.os
  tape : w'.tape = w.tape
  output : w'.output = w.output
theorem FrameW.refl (F : List Nat) (w : World) : FrameW F w w := ⟨Nat.le_refl _, fun _ _ _ => rfl, rfl, rfl, rfl⟩
theorem FrameW.trans {F : List Nat} {w w' w'' : World} (h : FrameW F w w') (h' : FrameW F w' w'') : FrameW F w w'' :=
  ⟨Nat.le_trans h.size h'.size, fun b hb hn => (h'.same b (Nat.lt_of_lt_of_le hb h.size) hn).trans (h.same b hb hn), h'.os.trans h.os, h'.tape.trans h.tape, h'.output.trans h.output⟩
theorem FrameW.mono {F F' : List Nat} {w w' : World} (h : FrameW F w w') (hf : ∀ b ∈ F, b ∈ F') : FrameW F' w w' :=
  ⟨h.size, fun b hb hn => h.same b hb fun hi => hn (hf b hi), h.os, h.tape, h.output⟩

def TreeA (w : World) : AV → Value → List Nat → Prop
  | .d c, v, bs => TreeV w c v bs
  | .agg cs, v, bs => ∃ vs, v = .agg (List.toArray vs) ∧ TreeL w cs vs bs
  | _, _, _ => False

/-- A function that fills what it was handed with numbers. -/
def MarkF (P : Program) (g : FuncId) (d d' : AV) (k k' : Int) : Prop :=
  CallOK P g ∧ ∀ (w : World) (v : Value) (bs : List Nat), TreeA w d v bs → Calls P g [v, Value.int .i64 k].toArray w fun e w' => e = .returned (.int .i64 k') ∧ TreeA w' d' v bs ∧ FrameW bs w w'

mutual
theorem TreeV.er {w : World} : ∀ {c : DV} {v : Value} {bs : List Nat}, TreeV w c v bs → TreeV w c.er v bs
  | .int _ _, _, _, h => h
  | .bool _, _, _, h => h
  | .str _, _, _, h => h
  | .pin _ _, _, _, h => by simp only [TreeV] at h
  | .sl sz xs o, v, bs, h => by
    simp only [TreeV, DV.er] at h ⊢
    have hl : (erLL xs).length = xs.length := by rw [erLL_eq]; simp
    obtain ⟨a, cap, h1, h2, h3⟩ := h
    refine ⟨a, cap, by rw [hl]; exact h1, by rw [hl]; exact h2, ?_⟩
    rcases h3 with ⟨rfl, h3⟩ | ⟨b, vs, bs', h3, rfl, h5, h6, h7, h8⟩
    · exact .inl ⟨rfl, h3⟩
    · refine .inr ⟨b, vs, bs', h3, rfl, h5, h6, fun x hx => ?_, TreeLL.er h8⟩
      rw [erLL_eq] at hx
      obtain ⟨x', hx', rfl⟩ := List.mem_map.1 hx
      rw [erL_eq, List.length_map]
      exact h7 x' hx'
theorem TreeLL.er {w : World} : ∀ {c : List (List DV)} {v : List Value} {bs : List Nat}, TreeLL w c v bs → TreeLL w (erLL c) v bs
  | [], _, _, h => h
  | x :: xs, v, bs, h => by
    simp only [TreeLL, erLL] at h ⊢
    obtain ⟨v1, v2, b1, b2, rfl, rfl, hd, h1, h2⟩ := h
    exact ⟨v1, v2, b1, b2, rfl, rfl, hd, TreeL.er h1, TreeLL.er h2⟩
theorem TreeL.er {w : World} : ∀ {c : List DV} {v : List Value} {bs : List Nat}, TreeL w c v bs → TreeL w (erL c) v bs
  | [], _, _, h => h
  | x :: xs, v, bs, h => by
    simp only [TreeL, erL] at h ⊢
    obtain ⟨v1, v2, b1, b2, rfl, rfl, hd, h1, h2⟩ := h
    exact ⟨v1, v2, b1, b2, rfl, rfl, hd, TreeV.er h1, TreeL.er h2⟩
end
theorem TreeA.er {w : World} {d : AV} {v : Value} {bs : List Nat} (h : TreeA w d v bs) : TreeA w d.er v bs := by
  cases d with
  | d c => exact TreeV.er h
  | agg cs => obtain ⟨vs, h1, h2⟩ := h; exact ⟨vs, h1, h2.er⟩
  | _ => exact h.elim

/-! ### What stays as it is, whatever that memory holds -/
/-- A value that is old, or that owns its memory by these tokens. -/
def keepD (I0 : IH) (T : List Nat) : DV → Prop
  | .pin c v => RepD I0 (fun _ => none) c v
  | .sl sz xs own => ∃ ts, ownD (.sl sz xs own) ts ∧ ∀ t ∈ ts, t ∈ T
  | _ => True
def keepL (I0 : IH) (T : List Nat) : List DV → Prop
  | [] => True
  | c :: cs => keepD I0 T c ∧ keepL I0 T cs
def keepA (I0 : IH) (T : List Nat) : AV → Prop
  | .d c => keepD I0 T c
  | .agg cs => keepL I0 T cs
  | .ptr _ _ => True
  | .unk => True
  | _ => False
def keepO (I0 : IH) (T : List Nat) : AO → Prop
  | .cells cs => keepL I0 T cs
  | .map _ => False
  | .gone => True
def keepE (I0 : IH) (T : List Nat) : List (Nat × AV) → Prop
  | [] => True
  | p :: l => keepA I0 T p.2 ∧ keepE I0 T l
def keepOs (I0 : IH) (T : List Nat) : List AO → Prop
  | [] => True
  | o :: l => keepO I0 T o ∧ keepOs I0 T l
theorem keepOs_get {I0 : IH} {T : List Nat} : ∀ {l : List AO} {i : Nat} {o : AO}, keepOs I0 T l → l[i]? = some o → keepO I0 T o
  | [], i, o, _, h => by simp at h
  | x :: l, 0, o, hk, h => by simp at h; subst h; exact hk.1
  | x :: l, i + 1, o, hk, h => keepOs_get hk.2 (by simpa using h)

open Classical in
/-- What is known behind such a call. -/
noncomputable def seenI (I : IH) (bs : List Nat) (w' : World) : IH := fun b o => if b ∈ bs then w'.cell? ⟨b, o, none⟩ else I b o

section
variable {E : Ent} {objs : List AO} {toks : List Nat} {nt : Nat} {I : IH} {τ : TH} {ρ : Nat → Nat} {w w' : World} {bs ts T : List Nat}
theorem seenI_in {b o : Nat} (h : b ∈ bs) : seenI I bs w' b o = w'.cell? ⟨b, o, none⟩ := by simp [seenI, h]
theorem seenI_out {b o : Nat} (h : b ∉ bs) : seenI I bs w' b o = I b o := by simp [seenI, h]

theorem blocks_new (h : St E objs toks nt I τ ρ w) (hbs : ofToks τ ts bs) (hts : ∀ t ∈ ts, t ∈ toks) : ∀ b ∈ bs, E.w0.heap.size ≤ b ∧ b < w.heap.size ∧ ∀ i, i < objs.length → ρ i ≠ b := fun b hb => by
  obtain ⟨t, ht, e, r, h1⟩ := hbs b hb
  obtain ⟨_, g⟩ := h.tok t (hts t ht)
  obtain ⟨g1, ⟨cur, T, g2, _⟩, _, g4⟩ := g _ _ _ h1
  exact ⟨g1.resolve_right (E.nolb _), (Array.getElem?_eq_some_iff.1 g2).1, g4⟩

theorem keep_d (h : St E objs toks nt I τ ρ w) (hbs : ofToks τ ts bs) (hts : ∀ t ∈ ts, t ∈ toks) (hT : ∀ t ∈ T, t ∈ toks) (hd : Disj T ts) {c : DV} {v : Value} (hk : keepD E.I0 T c) (hr : RepD I τ c v) : RepD (seenI I bs w') τ c v := by
  have hnew := blocks_new h hbs hts
  cases c with
  | int k n => cases hr; exact .int k n
  | bool b => cases hr; exact .bool b
  | str s => cases hr with | str _ hs => exact .str s hs
  | pin c u =>
    cases hr with
    | pin _ _ hr =>
    refine .pin _ _ (RepD.mono ⟨fun b o x hx => ?_, fun _ _ hx => by cases hx⟩ hk)
    have hb := h.i0 _ _ _ hx
    rw [seenI_out fun hin => by have := (hnew b hin).1; omega, h.ifr b ⟨hb, E.nolb b⟩]
    exact hx
  | sl sz xs own =>
    obtain ⟨us, h1, h2⟩ := hk
    refine hr.only h1 fun t ht b e r hb o => ?_
    refine seenI_out fun hin => ?_
    obtain ⟨u, hu, e', r', h3⟩ := hbs b hin
    have := h.tokd t (hT t (h2 t ht)) u (hts u hu) _ _ _ _ _ _ hb h3 rfl
    subst this
    exact hd t (h2 t ht) hu
theorem keep_l (h : St E objs toks nt I τ ρ w) (hbs : ofToks τ ts bs) (hts : ∀ t ∈ ts, t ∈ toks) (hT : ∀ t ∈ T, t ∈ toks) (hd : Disj T ts) : ∀ {cs : List DV} {vs : List Value}, keepL E.I0 T cs → RepL I τ cs vs → RepL (seenI I bs w') τ cs vs
  | [], vs, _, hr => by
    have : vs = [] := by have := hr.1; simpa using this.symm
    subst this
    exact RepL.nil _ _
  | c :: cs, vs, hk, hr => by
    obtain ⟨v, us, rfl, hx, hxs⟩ := repL_one hr
    exact RepL.cons (keep_d h hbs hts hT hd hk.1 hx) (keep_l h hbs hts hT hd hk.2 hxs)
theorem keep_a (h : St E objs toks nt I τ ρ w) (hbs : ofToks τ ts bs) (hts : ∀ t ∈ ts, t ∈ toks) (hT : ∀ t ∈ T, t ∈ toks) (hd : Disj T ts) {n : Nat} {v : AV} {x : Value} (hk : keepA E.I0 T v) (hr : RepA I τ ρ n v x) : RepA (seenI I bs w') τ ρ n v x := by
  cases hr with
  | d c v hr => exact .d _ _ (keep_d h hbs hts hT hd hk hr)
  | agg cs vs hr => exact .agg _ _ (keep_l h hbs hts hT hd hk hr)
  | ptr o off ho => exact .ptr o off ho
  | unk v => exact .unk _
  | _ => exact hk.elim
theorem keep_o (h : St E objs toks nt I τ ρ w) (hbs : ofToks τ ts bs) (hts : ∀ t ∈ ts, t ∈ toks) (hT : ∀ t ∈ T, t ∈ toks) (hd : Disj T ts) {o : AO} {x : Option Obj} (hk : keepO E.I0 T o) (hr : RepO I τ o x) : RepO (seenI I bs w') τ o x := by
  cases o with
  | cells cs => obtain ⟨vs, T', h1, h2⟩ := hr; exact ⟨vs, T', h1, keep_l h hbs hts hT hd hk h2⟩
  | map es => exact hk.elim
  | gone => trivial

theorem St.marked (h : St E objs toks nt I τ ρ w) (hbs : ofToks τ ts bs) (hts : ∀ t ∈ ts, t ∈ toks) (hT : ∀ t ∈ T, t ∈ toks) (hd : Disj T ts) (hF : FrameW bs w w') {objs' : List AO} (hl : objs'.length = objs.length)
    (hobj : ∀ (i : Nat) o, objs'[i]? = some o → RepO (seenI I bs w') τ o (w'.heap[ρ i]?)) : St E objs' T nt (seenI I bs w') τ ρ w' := by
  have hnew := blocks_new h hbs hts
  have hold : ∀ b, b < E.w0.heap.size → b ∉ bs := fun b hb hin => by have := (hnew b hin).1; omega
  have hobn : ∀ i, i < objs.length → ρ i ∉ bs := fun i hi hin => (hnew _ hin).2.2 i hi rfl
  refine ⟨fun b o v hv => ?_, hobj, fun i hi => ?_, fun i j hi hj => h.inj i j (by omega) (by omega), fun t ht => ?_, fun t ht u hu => h.tokd t (hT t ht) u (hT u hu), hF.os.trans h.os, hF.tape.trans h.tape, hF.output.trans h.output, Nat.le_trans h.size hF.size, fun b hb hi => ?_, fun b hb o => ?_, fun b hb => absurd hb (E.nolb b), h.rho, fun i hi hj => h.fresh i hi (by omega), h.tau, by rw [hl]; exact h.len, h.ntle, h.i0, h.tn⟩
  · by_cases hin : b ∈ bs
    · rwa [seenI_in hin] at hv
    · rw [seenI_out hin] at hv
      have h1 := h.iok b o v hv
      have h2 := h.lt_of_I hv
      simpa [World.cell?, hF.same b h2 hin] using h1
  · rw [hl] at hi
    refine ⟨Nat.lt_of_lt_of_le (h.objI i hi).1 hF.size, fun off => ?_⟩
    rw [seenI_out (hobn i hi)]
    exact (h.objI i hi).2 off
  · obtain ⟨g1, g⟩ := h.tok t (hT t ht)
    refine ⟨g1, fun b e r hb => ?_⟩
    obtain ⟨k1, ⟨cur, T', k2, k3⟩, k4, k5⟩ := g b e r hb
    have hin : b ∉ bs := fun hin => by
      obtain ⟨u, hu, e', r', h3⟩ := hbs b hin
      have := h.tokd t (hT t ht) u (hts u hu) _ _ _ _ _ _ hb h3 rfl
      subst this
      exact hd t ht hu
    refine ⟨k1, ⟨cur, T', ?_, k3⟩, fun o ho => ?_, fun i hi => k5 i (by omega)⟩
    · rw [hF.same b (Array.getElem?_eq_some_iff.1 k2).1 hin]; exact k2
    · rw [seenI_out hin]; exact k4 o ho
  · rw [hF.same b (Nat.lt_of_lt_of_le hb h.size) (hold b hb)]
    exact h.blk b hb hi
  · rw [seenI_out (hold b hb.1)]
    exact h.ifr b hb o
theorem treeA_rep {d : AV} {v : Value} {n : Nat} (h : TreeA w' d v bs) : RepA (seenI I bs w') τ ρ n d.er v := by
  cases d with
  | d c => exact .d _ _ (TreeV.rep h fun b hb o x hx => by rw [seenI_in hb]; exact hx)
  | agg cs => obtain ⟨vs, rfl, h2⟩ := h; exact .agg _ _ (TreeL.rep h2 fun b hb o x hx => by rw [seenI_in hb]; exact hx)
  | _ => exact h.elim
end

/-! ### The same, in a walk -/
/-- The call and what is stored of it. -/
theorem mark_ops {P : Program} {g : FuncId} {ta tb tr tk : Nat} {tys : Array TypeId} {y3 y4 : TypeId} {p3 p4 : String} {f3 f4 : Array Edge} {all : Array Oper} {Q : Exit → Act → World → Prop} {a : Act} {w : World} {v : Value} {k : Int} {R : Ending → World → Prop}
    (hc : CallOK P g) (ha : a.tmps.getD ta undef = v) (hb : a.tmps.getD tb undef = .int .i64 k) (hr : Calls P g [v, Value.int .i64 k].toArray w R) (hR : ∀ e w', R e w' → ∃ x, e = .returned x ∧ Q .normal ((a.put (some tr) x).put (some tk) ((a.put (some tr) x).eval (.tmp tr))) w') :
    wpList P all Q [⟨some tr, .call ⟨.value (.func g), #[.tmp ta, .tmp tb], tys⟩, y3, p3, f3, none⟩, ⟨some tk, .assign (.tmp tr), y4, p4, f4, none⟩] a w := by
  refine wpList_plain rfl fun K hK => ?_
  unfold Oper.wp
  have e : (execOp a.eval ⟨some tr, .call ⟨.value (.func g), #[.tmp ta, .tmp tb], tys⟩, y3, p3, f3, none⟩).run P w = .ok (.enter g [v, Value.int .i64 k].toArray) w := by
    have e1 : a.eval (.tmp ta) = v := ha
    have e2 : a.eval (.tmp tb) = .int .i64 k := hb
    have := hc [v, Value.int .i64 k].toArray w
    simp only [execOp, resolve, Act.eval, Deferred.ofValue, pure_bind, invoke, Array.empty_append]
    simpa [Act.eval, ha, hb] using this
  rw [e]
  refine Calls.mono hr fun e w' h => ?_
  obtain ⟨x, rfl, hx⟩ := hR e w' h
  refine hK _ _ (wpList_plain rfl fun K hK => ?_)
  refine wp_of_value (x := (a.put (some tr) x).eval (.tmp tr)) rfl ?_
  exact hK _ _ (wpList_nil hx)

theorem put_at {a : Act} {n d : Nat} {x : Value} (hs : a.tmps.size = n) (hd : d < n) : (a.put (some d) x).tmps.getD d undef = x := by rw [Act.getD_put a d x d (by omega), if_pos rfl]
theorem put_ne {a : Act} {n d t : Nat} {x : Value} (hs : a.tmps.size = n) (hd : d < n) (hne : t ≠ d) : (a.put (some d) x).tmps.getD t undef = a.tmps.getD t undef := by rw [Act.getD_put a d x t (by omega), if_neg hne]
theorem put_size {a : Act} {n d : Nat} {x : Value} (hs : a.tmps.size = n) : (a.put (some d) x).tmps.size = n := by simp [Act.put, hs]
theorem put_defers {a : Act} {d : Nat} {x : Value} (hs : a.defers = []) : (a.put (some d) x).defers = [] := by simpa [Act.put] using hs

def offB (L : List Nat) (t : Nat) : Bool := !L.contains t
theorem off_ne {L : List Nat} {t u : Nat} (h : offB L t = true) (hu : u ∈ L) : t ≠ u := fun e => by
  subst e
  simp [offB] at h
  exact h hu

/-- The kept slots, behind it. -/
theorem keep_slots {E : Ent} {I I' : IH} {τ : TH} {ρ : Nat → Nat} {n : Nat} {T bad : List Nat} {env : List (Nat × AV)} {a a' : Act} (hA : ∀ t, RepA I τ ρ n (getE env t) (a.tmps.getD t undef)) (hbad : ∀ t, offB bad t = true → a'.tmps.getD t undef = a.tmps.getD t undef)
    (hkeep : ∀ v x, keepA E.I0 T v → RepA I τ ρ n v x → RepA I' τ ρ n v x) : ∀ (L : List Nat) {kept : List (Nat × AV)}, pickE env L = kept → keepE E.I0 T kept → (L.all fun t => offB bad t) = true → ∀ t, RepA I' τ ρ n (getE kept t) (a'.tmps.getD t undef)
  | [], _, rfl, _, _, t => .unk _
  | u :: L, _, rfl, hk, hL, t => by
    simp only [pickE, getE]
    simp only [List.all_cons, Bool.and_eq_true] at hL
    split
    · rename_i e
      subst e
      rw [hbad _ hL.1]
      exact hkeep _ _ hk.1 (hA _)
    · exact keep_slots hA hbad hkeep L rfl hk.2 hL.2 t

theorem awp_markV {P : Program} {E : Ent} {Q : Exit → AS → Prop} {s : AS} {rest : Code} {id ta tb tr tk tx : Nat} {g : FuncId} {tys : Array TypeId} {y1 y2 y3 y4 : TypeId} {p1 p2 p3 p4 : String} {f1 f2 f3 f4 : Array Edge} (L ts T : List Nat) {kept : List (Nat × AV)} {d d0 d' : DV} {k k' : Int}
    (hm : MarkF P g (.d d0) (.d d') k k') (he : d.er = d0) (he' : d'.er = d') (hx : getE s.env tx = .d d) (hk : getE s.env tk = .d (.int .i64 k)) (ho : ownD d ts) (hts : ∀ t ∈ ts, t ∈ s.toks) (hT : ∀ t ∈ T, t ∈ s.toks) (hd : Disj T ts)
    (hkept : pickE s.env L = kept) (hke : keepE E.I0 T kept) (hko : keepOs E.I0 T s.objs)
    (hL : (L.all fun t => offB [ta, tb, tr, tk] t) = true) (hne : (offB [tb] ta && offB [ta] tk && offB [ta, tb, tr, tk] tx) = true)
    (h : AWp P E rest Q ⟨(tk, .d (.int .i64 k')) :: (tx, .d d') :: kept, s.objs, T, s.nt⟩) :
    AWp P E (.seq (.region id [⟨some ta, .move (.tmp tx), y1, p1, f1, none⟩, ⟨some tb, .move (.tmp tk), y2, p2, f2, none⟩, ⟨some tr, .call ⟨.value (.func g), #[.tmp ta, .tmp tb], tys⟩, y3, p3, f3, none⟩, ⟨some tk, .assign (.tmp tr), y4, p4, f4, none⟩].toArray false) rest) Q s := by
  intro hok a w hs
  obtain ⟨⟨I, τ, ρ, h1, h2⟩, h3, h4⟩ := hs
  simp only [codeOK, List.all_cons, List.all_nil, Option.all_some, Bool.and_eq_true, decide_eq_true_eq, Bool.and_true] at hok
  obtain ⟨⟨n1, n2, n3, n4⟩, hok⟩ := hok
  simp only [Bool.and_eq_true] at hne
  have e1 : ta ≠ tb := off_ne hne.1.1 (by simp)
  have e2 : tk ≠ ta := off_ne hne.1.2 (by simp)
  refine wp_seq (wp_region_lit ?_)
  refine wpList_plain rfl fun K hK => wp_of_value (x := a.eval (.tmp tx)) rfl (hK _ _ ?_)
  clear hK K
  generalize ha1 : a.put (some ta) (a.eval (.tmp tx)) = a1
  have s1 : a1.tmps.size = E.n := by rw [← ha1]; exact put_size h3
  refine wpList_plain rfl fun K hK => wp_of_value (x := a1.eval (.tmp tk)) rfl (hK _ _ ?_)
  clear hK K
  generalize ha2 : a1.put (some tb) (a1.eval (.tmp tk)) = a2
  have s2 : a2.tmps.size = E.n := by rw [← ha2]; exact put_size s1
  have hvx := h2 tx
  rw [hx] at hvx
  generalize hv : a.tmps.getD tx undef = v at hvx
  cases hvx with
  | d _ _ hr =>
  obtain ⟨bs, t1, t2⟩ := tree_of h1 hr ho hts
  have t1' : TreeA w (.d d0) v bs := by rw [← he]; exact TreeV.er t1
  have hkk := h2 tk
  rw [hk] at hkk
  have va : a2.tmps.getD ta undef = v := by
    rw [← ha2, put_ne s1 n2 e1, ← ha1, put_at h3 n1]; exact hv
  have vb : a2.tmps.getD tb undef = .int .i64 k := by
    rw [← ha2, put_at s1 n2]
    show a1.tmps.getD tk undef = _
    rw [← ha1, put_ne h3 n1 e2]
    exact rep_int hkk
  refine mark_ops hm.1 va vb (hm.2 w v bs t1') fun e w' ⟨q1, q2, q3⟩ => ⟨_, q1, ?_⟩
  generalize ha3 : a2.put (some tr) (.int .i64 k') = a3
  have s3 : a3.tmps.size = E.n := by rw [← ha3]; exact put_size s2
  have hbad : ∀ t, offB [ta, tb, tr, tk] t = true → (a3.put (some tk) (a3.eval (.tmp tr))).tmps.getD t undef = a.tmps.getD t undef := fun t ht => by
    rw [put_ne s3 n4 (off_ne ht (by simp)), ← ha3, put_ne s2 n3 (off_ne ht (by simp)), ← ha2, put_ne s1 n2 (off_ne ht (by simp)), ← ha1, put_ne h3 n1 (off_ne ht (by simp))]
  refine h hok _ w' ⟨⟨seenI I bs w', τ, ρ, h1.marked t2 hts hT hd q3 rfl fun i o hi => ?_, fun t => ?_⟩, put_size s3, ?_⟩
  · have hlt : i < s.objs.length := (List.getElem?_eq_some_iff.1 hi).1
    rw [q3.same _ (h1.objI i hlt).1 fun hin => (blocks_new h1 t2 hts _ hin).2.2 i hlt rfl]
    exact keep_o h1 t2 hts hT hd (keepOs_get hko hi) (h1.obj i o hi)
  · simp only [getE]
    split
    · rename_i e
      subst e
      rw [put_at s3 n4]
      show RepA _ _ _ _ _ (a3.tmps.getD tr undef)
      rw [← ha3, put_at s2 n3]
      exact .d _ _ (.int _ _)
    · split
      · rename_i e
        subst e
        rw [hbad _ hne.2, hv]
        have := treeA_rep (I := I) (τ := τ) (ρ := ρ) (n := s.objs.length) q2
        simp only [AV.er, he'] at this
        exact this
      · exact keep_slots h2 hbad (fun v x => keep_a h1 t2 hts hT hd) L hkept hke hL t
  · exact put_defers (by rw [← ha3]; exact put_defers (by rw [← ha2]; exact put_defers (by rw [← ha1]; exact put_defers h4)))

end Go.AL

namespace Go.AL
open Go
set_option linter.unusedSectionVars false
variable [Inhabited Glob] [Inhabited NoLend]
set_option linter.unusedSimpArgs false
set_option linter.unusedVariables false
/-! ### Functions that write into memory that they were handed: slots that hold known values -/
def getP : List (Nat × Value) → Nat → Option Value
  | [], _ => none
  | p :: l, t => if t = p.1 then some p.2 else getP l t
structure PS (n : Nat) (env : List (Nat × Value)) (M : World → Prop) (a : Act) (w : World) : Prop where
  sz : a.tmps.size = n
  df : a.defers = []
  ev : ∀ t v, getP env t = some v → a.tmps.getD t undef = v
  m : M w
def pev (env : List (Nat × Value)) : Operand → Option Value
  | .tmp t => getP env t
  | .const v => some v
  | _ => none
theorem PS.eval {n : Nat} {env : List (Nat × Value)} {M : World → Prop} {a : Act} {w : World} (h : PS n env M a w) {x : Operand} {v : Value} (hx : pev env x = some v) : a.eval x = v := by
  cases x with
  | tmp t => exact h.ev t v hx
  | const c => simp only [pev, Option.some.injEq] at hx; subst hx; rfl
  | _ => cases hx
theorem PS.put {n : Nat} {env : List (Nat × Value)} {M M' : World → Prop} {a : Act} {w w' : World} (h : PS n env M a w) {d : Nat} (hd : d < n) (v : Value) (hm : M' w') : PS n ((d, v) :: env) M' (a.put (some d) v) w' := by
  refine ⟨put_size h.sz, put_defers h.df, fun t u ht => ?_, hm⟩
  simp only [getP] at ht
  split at ht
  · rename_i e
    subst e
    cases ht
    exact put_at h.sz hd
  · rename_i e
    rw [put_ne h.sz hd e]
    exact h.ev t u ht
theorem PS.sub {n : Nat} {env env' : List (Nat × Value)} {M M' : World → Prop} {a : Act} {w : World} (h : PS n env M a w) (he : ∀ p ∈ env', getP env p.1 = some p.2) (hm : ∀ w, M w → M' w) : PS n env' M' a w := by
  refine ⟨h.sz, h.df, fun t v ht => ?_, hm w h.m⟩
  have key : ∀ l : List (Nat × Value), (∀ p ∈ l, getP env p.1 = some p.2) → getP l t = some v → getP env t = some v := by
    intro l
    induction l with
    | nil => intro _ h; cases h
    | cons p l ih =>
      intro hl hg
      simp only [getP] at hg
      split at hg
      · rename_i e; cases hg; rw [e]; exact hl p (by simp)
      · exact ih (fun q hq => hl q (by simp [hq])) hg
  exact h.ev t v (key env' he ht)

def PW (P : Program) (n : Nat) (c : Code) (Q : Exit → Act → World → Prop) (env : List (Nat × Value)) (M : World → Prop) : Prop := ∀ a w, PS n env M a w → c.wp P Q a w
def PR (P : Program) (n : Nat) (all : Array Oper) (l : List Oper) (Q : Exit → Act → World → Prop) (env : List (Nat × Value)) (M : World → Prop) : Prop := ∀ a w, PS n env M a w → wpList P all Q l a w
def PQ (n : Nat) (Q : Exit → Act → World → Prop) (e : Exit) (env : List (Nat × Value)) (M : World → Prop) : Prop := ∀ a w, PS n env M a w → Q e a w
section
variable {P : Program} {n : Nat} {Q : Exit → Act → World → Prop} {env : List (Nat × Value)} {M : World → Prop}
theorem pw_seqr {id : Nat} {l : List Oper} {y : Code} (h : PR P n l.toArray l (Exit.then (fun a w => y.wp P Q a w) Q) env M) : PW P n (.seq (.region id l.toArray false) y) Q env M := fun a w hs => wp_seq (wp_region_lit (h a w hs))
theorem pw_region {id : Nat} {l : List Oper} (h : PR P n l.toArray l Q env M) : PW P n (.region id l.toArray false) Q env M := fun a w hs => wp_region_lit (h a w hs)
theorem pw_seq {x y : Code} (h : PW P n x (Exit.then (fun a w => y.wp P Q a w) Q) env M) : PW P n (.seq x y) Q env M := fun a w hs => wp_seq (h a w hs)
theorem pw_block {id : Nat} {c : Code} (h : PW P n c (Exit.inBlock id Q) env M) : PW P n (.block id c) Q env M := fun a w hs => wp_block (h a w hs)
theorem pw_skip (h : PQ n Q .normal env M) : PW P n .skip Q env M := fun a w hs => wp_skip (h a w hs)
theorem pw_ret (h : PQ n Q .ret env M) : PW P n .ret Q env M := fun a w hs => wp_ret (h a w hs)
theorem pw_exit {id : Nat} (h : PQ n Q (.exit id) env M) : PW P n (.exit id) Q env M := fun a w hs => wp_exit (h a w hs)
theorem pw_cond_t {c : Operand} {x y : Code} (hc : pev env c = some (.bool true)) (h : PW P n x Q env M) : PW P n (.cond c x y) Q env M := fun a w hs => wp_cond_true (hs.eval hc) (h a w hs)
theorem pw_cond_f {c : Operand} {x y : Code} (hc : pev env c = some (.bool false)) (h : PW P n y Q env M) : PW P n (.cond c x y) Q env M := fun a w hs => wp_cond_false (hs.eval hc) (h a w hs)
theorem pw_weak {c : Code} {M' : World → Prop} (hm : ∀ w, M w → M' w) (h : PW P n c Q env M') : PW P n c Q env M := fun a w hs => h a w ⟨hs.sz, hs.df, hs.ev, hm w hs.m⟩
theorem pw_sub {c : Code} {env' : List (Nat × Value)} {M' : World → Prop} (he : ∀ p ∈ env', getP env p.1 = some p.2) (hm : ∀ w, M w → M' w) (h : PW P n c Q env' M') : PW P n c Q env M := fun a w hs => h a w (hs.sub he hm)
theorem pr_nil {all : Array Oper} (h : PQ n Q .normal env M) : PR P n all [] Q env M := fun a w hs => wpList_nil (h a w hs)
theorem pq_then {N : Act → World → Prop} (h : ∀ a w, PS n env M a w → N a w) : PQ n (Exit.then N Q) .normal env M := h
theorem pq_seq {y : Code} (h : PW P n y Q env M) : PQ n (Exit.then (fun a w => y.wp P Q a w) Q) .normal env M := h
theorem pq_then_ret {N : Act → World → Prop} (h : PQ n Q .ret env M) : PQ n (Exit.then N Q) .ret env M := h
theorem pq_then_exit {N : Act → World → Prop} {id : Nat} (h : PQ n Q (.exit id) env M) : PQ n (Exit.then N Q) (.exit id) env M := h
theorem pq_block_normal {id : Nat} (h : PQ n Q .normal env M) : PQ n (Exit.inBlock id Q) .normal env M := h
theorem pq_block_ret {id : Nat} (h : PQ n Q .ret env M) : PQ n (Exit.inBlock id Q) .ret env M := h
theorem pq_block_here {id : Nat} (h : PQ n Q .normal env M) : PQ n (Exit.inBlock id Q) (.exit id) env M := fun a w hs => by
  simp only [Exit.inBlock, if_true]; exact h a w hs
theorem pq_block_far {id id' : Nat} (hne : Nat.beq id' id = false) (h : PQ n Q (.exit id') env M) : PQ n (Exit.inBlock id Q) (.exit id') env M := fun a w hs => by
  have : ¬ id' = id := fun e => by subst e; simp at hne
  simp only [Exit.inBlock, this, if_false]; exact h a w hs
/-- A loop that counts. -/
theorem pw_loop {c : Code} (N ti : Nat) (fe : Nat → List (Nat × Value)) (fm : Nat → World → Prop) (hti : ∀ i, getP (fe i) ti = some (.int .i64 i)) (h0 : env = fe 0 ∧ M = fm 0)
    (round : ∀ i, i ≤ N → PW P n c (Exit.then (fun a w => i < N ∧ PS n (fe (i + 1)) (fm (i + 1)) a w) Q) (fe i) (fm i)) : PW P n (.loop c) Q env M := by
  obtain ⟨rfl, rfl⟩ := h0
  intro a w hs
  let μ : Act → World → Nat := fun a _ => match a.tmps.getD ti undef with
    | .int _ m => N + 1 - m.toNat
    | _ => 0
  have hμ : ∀ i a w, PS n (fe i) (fm i) a w → μ a w = N + 1 - i := fun i a w h => by
    have := h.ev ti _ (hti i)
    simp only [μ, this, Int.toNat_natCast]
  refine wp_loop (fun a w => ∃ i, i ≤ N ∧ PS n (fe i) (fm i) a w) μ ⟨0, Nat.zero_le _, hs⟩ fun a w ⟨i, hi, hp⟩ => ?_
  refine Go.wp_mono (round i hi a w hp) fun e a' w' hq => ?_
  cases e with
  | normal =>
    obtain ⟨hlt, hp'⟩ := hq
    refine ⟨⟨i + 1, hlt, hp'⟩, ?_⟩
    rw [hμ i a w hp, hμ (i + 1) a' w' hp']
    omega
  | _ => exact hq

variable {all : Array Oper} {rest : List Oper} {y : TypeId} {p : String} {f : Array Edge} {d : Nat} {x x2 : Operand}
theorem pr_move {v : Value} (hx : pev env x = some v) (hd : d < n) (h : PR P n all rest Q ((d, v) :: env) M) : PR P n all (⟨some d, .move x, y, p, f, none⟩ :: rest) Q env M := fun a w hs =>
  wpList_plain rfl fun K hK => wp_of_value (x := a.eval x) rfl (hK _ _ (by rw [hs.eval hx]; exact h _ _ (hs.put hd v hs.m)))
theorem pr_assign {v : Value} (hx : pev env x = some v) (hd : d < n) (h : PR P n all rest Q ((d, v) :: env) M) : PR P n all (⟨some d, .assign x, y, p, f, none⟩ :: rest) Q env M := fun a w hs =>
  wpList_plain rfl fun K hK => wp_of_value (x := a.eval x) rfl (hK _ _ (by rw [hs.eval hx]; exact h _ _ (hs.put hd v hs.m)))
theorem pr_bin {op : BinOp} {T U : TypeId} {k : IntKind} {m m' : Int} {r : DV} (hx : pev env x = some (.int k m)) (hy : pev env x2 = some (.int k m')) (hr : binI op k m m' = some r) (hd : d < n) (h : PR P n all rest Q ((d, r.zv) :: env) M) :
    PR P n all (⟨some d, .binOp op T x x2 U, y, p, f, none⟩ :: rest) Q env M := fun a w hs => by
  have h3 := hs.eval hx
  have h4 := hs.eval hy
  refine wpList_plain rfl fun K hK => wp_of_value (w' := w) (x := r.zv) ?_ (hK _ _ (h _ _ (hs.put hd r.zv hs.m)))
  cases op <;> simp only [binI, Option.some.injEq, reduceCtorEq] at hr <;> first
    | (subst hr; simp [execOp, h3, h4, eqGuard_at_int, binOp, Op.intArith, Op.intBits, Op.intCmp, DV.zv])
    | (split at hr
       · cases hr
       · rename_i hb
         cases hr
         simp [execOp, h3, h4, eqGuard_at_int, binOp, Op.intDiv, hb, DV.zv])
    | cases hr
theorem pr_len (TT : Tab P) {T e : Nat} {tys : Array TypeId} {a0 : Option Addr} {m cap : Nat} (hx : pev env x = some (.slice a0 m cap)) (ht : (TT.T T).t = .slice e) (htys : tys = #[T]) (hd : d < n) (h : PR P n all rest Q ((d, .int .i64 m) :: env) M) :
    PR P n all (⟨some d, .call ⟨.builtin .len, #[x], tys⟩, y, p, f, none⟩ :: rest) Q env M := fun a w hs => by
  have h3 := hs.eval hx
  have hdd := (TT.ok T).desc
  simp only [ht] at hdd
  refine wpList_plain rfl fun K hK => wp_of_value (w' := w) (x := .int .i64 m) ?_ (hK _ _ (h _ _ (hs.put hd _ hs.m)))
  simp [execOp, resolve, invoke, builtin, htys, h3, Builtin.len_, run_underlying hdd, goInt]
theorem pr_iaddr (TT : Tab P) {T e b m cap sz : Nat} {k : IntKind} {i : Int} (hx : pev env x = some (.slice (some ⟨b, 0, none⟩) m cap)) (hy : pev env x2 = some (.int k i)) (ht : (TT.T T).t = .slice e) (hke : (TT.T e).t.known = true) (hsz : (TT.T e).size = sz) (h0 : 0 ≤ i) (h1 : i.toNat < m) (hd : d < n)
    (h : PR P n all rest Q ((d, .pointer (some ⟨b, i.toNat * sz, none⟩)) :: env) M) : PR P n all (⟨some d, .indexAddr T x x2, y, p, f, none⟩ :: rest) Q env M := fun a w hs => by
  have h3 := hs.eval hx
  have h4 := hs.eval hy
  have hdd := (TT.ok T).desc
  simp only [ht] at hdd
  have hlt' : i < m := by omega
  refine wpList_plain rfl fun K hK => wp_of_value (w' := w) (x := .pointer (some ⟨b, i.toNat * sz, none⟩)) ?_ (hK _ _ (h _ _ (hs.put hd _ hs.m)))
  simp only [execOp, h3, h4]
  simp [run_indexAt_slice w T ⟨b, 0, none⟩ m cap k i (by rw [hdd]; simp [Program.elem, hdd]), h0, hlt', Program.elem, hdd, run_sizeOf_of w (TT.ok e) hke, hsz, Addr.add_lit]
theorem pr_faddr (TT : Tab P) {T b off ff fo ft : Nat} {fs : List (Nat × Nat)} (hx : pev env x = some (.pointer (some ⟨b, off, none⟩))) (ht : (TT.T T).t = .strct fs) (hf : fs[ff]? = some (fo, ft)) (hk : (TT.T ft).t.known = true) (hz : (TT.T ft).size ≠ 0) (hd : d < n)
    (h : PR P n all rest Q ((d, .pointer (some ⟨b, off + fo, none⟩)) :: env) M) : PR P n all (⟨some d, .fieldAddr T x ff, y, p, f, none⟩ :: rest) Q env M := fun a w hs => by
  have h3 := hs.eval hx
  obtain ⟨F, hu, g, hg, rfl, rfl⟩ := fieldOff TT ht hf
  refine wpList_plain rfl fun K hK => wp_of_value (w' := w) (x := .pointer (some ⟨b, off + g.offset, none⟩)) ?_ (hK _ _ (h _ _ (hs.put hd _ hs.m)))
  simp [execOp, h3, Instr.fieldAt, Instr.sureAddr, run_underlying hu, hg, fieldPlace, run_sizeOf_of w (TT.ok g.type) hk, hz, Addr.add_lit]
/-- A call of a function that only computes. -/
theorem pr_pure {g : FuncId} {tys : Array TypeId} {args : List Operand} {vs : List Value} {avs : List AV} {r : AV} {v : Value} (hc : @Gives trivGlob P g avs r) (hx : args.map (pev env) = vs.map some) (ha : ∀ I τ ρ, RepAs I τ ρ 0 avs vs) (hr : ∀ I τ ρ u, RepA I τ ρ 0 r u → u = v)
    (hM : ∀ w w', FrameW [] w w' → M w → M w') (hd : d < n) (h : PR P n all rest Q ((d, v) :: env) M) : PR P n all (⟨some d, .call ⟨.value (.func g), args.toArray, tys⟩, y, p, f, none⟩ :: rest) Q env M := fun a w hs => by
  refine wpList_plain rfl fun K hK => ?_
  unfold Oper.wp
  have ev : args.map a.eval = vs := by
    have key : ∀ (l : List Operand) (vs : List Value), l.map (pev env) = vs.map some → l.map a.eval = vs := by
      intro l
      induction l with
      | nil => intro vs h; cases vs with | nil => rfl | cons _ _ => cases h
      | cons x l ih =>
        intro vs h
        cases vs with
        | nil => cases h
        | cons v vs =>
          simp only [List.map_cons, List.cons.injEq] at h ⊢
          exact ⟨hs.eval h.1, ih vs h.2⟩
    exact key args vs hx
  have e : (execOp a.eval ⟨some d, .call ⟨.value (.func g), args.toArray, tys⟩, y, p, f, none⟩).run P w = .ok (.enter g vs.toArray) w := by
    have := (@AC.call trivGlob _ _ _ _ _ hc) vs.toArray w
    simp only [execOp, resolve, Act.eval, Deferred.ofValue, pure_bind, invoke, Array.empty_append]
    have e2 : args.toArray.map (fun x => a.eval x) = vs.toArray := by rw [← ev]; simp
    have e3 : args.toArray.map a.eval = vs.toArray := e2
    rw [e3]
    simpa using this
  rw [e]
  have hg : @GivesR trivGlob P g avs (fun v => v = r) := @AC.mono trivGlob _ _ _ _ _ _ hc fun n v o t m h => h
  refine Calls.mono (@run_pure trivGlob _ _ _ _ _ _ trivial hg (ha (cellI w) (fun _ => none) (fun _ => 0))) fun e w' hh => ?_
  obtain ⟨x, r', I', τ', ρ', he, h5, g2, hb⟩ := hh
  subst he h5
  have hv := hr _ _ _ _ g2
  subst hv
  have hF : FrameW [] w w' := ⟨hb.size, fun b h _ => hb.block b h, hb.os, hb.tape, hb.output⟩
  exact hK _ _ (h _ _ (hs.put hd _ (hM w w' hF hs.m)))
end

/-! ### The memory that is written -/
mutual
theorem TreeV.lt {w : World} : ∀ {c : DV} {v : Value} {bs : List Nat}, TreeV w c v bs → ∀ b ∈ bs, b < w.heap.size
  | .int _ _, _, _, h, b, hb => by simp only [TreeV] at h; rw [h.2] at hb; simp at hb
  | .bool _, _, _, h, b, hb => by simp only [TreeV] at h; rw [h.2] at hb; simp at hb
  | .str _, _, _, h, b, hb => by simp only [TreeV] at h; rw [h.2] at hb; simp at hb
  | .pin _ _, _, _, h, _, _ => by simp only [TreeV] at h
  | .sl sz xs o, v, bs, h, x, hx => by
    simp only [TreeV] at h
    obtain ⟨a, cap, h1, h2, ⟨_, rfl⟩ | ⟨b, vs, bs', h3, rfl, h5, ⟨arr, T, h6, _⟩, h7, h8⟩⟩ := h
    · simp at hx
    · simp only [List.mem_cons] at hx
      rcases hx with rfl | hx
      · exact (Array.getElem?_eq_some_iff.1 h6).1
      · exact TreeLL.lt h8 x hx
theorem TreeLL.lt {w : World} : ∀ {c : List (List DV)} {v : List Value} {bs : List Nat}, TreeLL w c v bs → ∀ b ∈ bs, b < w.heap.size
  | [], _, _, h, b, hb => by simp only [TreeLL] at h; rw [h.2] at hb; simp at hb
  | x :: xs, v, bs, h, b, hb => by
    simp only [TreeLL] at h
    obtain ⟨v1, v2, b1, b2, rfl, rfl, hd, h1, h2⟩ := h
    rcases List.mem_append.1 hb with hb | hb
    · exact TreeL.lt h1 b hb
    · exact TreeLL.lt h2 b hb
theorem TreeL.lt {w : World} : ∀ {c : List DV} {v : List Value} {bs : List Nat}, TreeL w c v bs → ∀ b ∈ bs, b < w.heap.size
  | [], _, _, h, b, hb => by simp only [TreeL] at h; rw [h.2] at hb; simp at hb
  | x :: xs, v, bs, h, b, hb => by
    simp only [TreeL] at h
    obtain ⟨v1, v2, b1, b2, rfl, rfl, hd, h1, h2⟩ := h
    rcases List.mem_append.1 hb with hb | hb
    · exact TreeV.lt h1 b hb
    · exact TreeL.lt h2 b hb
end
def isSc : DV → Bool
  | .int _ _ => true
  | .bool _ => true
  | .str _ => true
  | _ => false
/-- A number, a truth or a text, and its value. -/
def scal : DV → Value → Prop
  | .int k n, v => v = .int k n
  | .bool b, v => v = .bool b
  | .str s, v => v = .string ⟨s.toArray⟩ ∧ s.length ≤ 9223372036854775807
  | _, _ => False
theorem scal_tree {w : World} {c : DV} {v : Value} (h : scal c v) : TreeV w c v [] := by
  cases c <;> simp_all [scal, TreeV]
theorem sc_nil {w : World} {c : DV} {v : Value} {bs : List Nat} (h : TreeV w c v bs) (hs : isSc c = true) : bs = [] := by
  cases c with
  | int k n => exact h.2
  | bool b => exact h.2
  | str s => exact h.2
  | _ => cases hs
theorem scal_cell {c : DV} {v : Value} (h : scal c v) : v.cells = #[v] ∧ v.oneCell' = true := by
  cases c with
  | int k n => cases h; exact ⟨rfl, rfl⟩
  | bool b => cases h; exact ⟨rfl, rfl⟩
  | str s => obtain ⟨rfl, _⟩ := h; exact ⟨rfl, rfl⟩
  | _ => exact h.elim
theorem treeL_len {w : World} : ∀ {ds : List DV} {vs : List Value} {bs : List Nat}, TreeL w ds vs bs → vs.length = ds.length
  | [], _, _, h => by simp only [TreeL] at h; rw [h.1]; rfl
  | x :: xs, v, bs, h => by
    simp only [TreeL] at h
    obtain ⟨v1, v2, b1, b2, rfl, rfl, hd, h1, h2⟩ := h
    simp [treeL_len h2]
theorem treeL_set {w : World} : ∀ {ds : List DV} {vs : List Value} {bs : List Nat} {j : Nat} {c0 c : DV} {v : Value}, TreeL w ds vs bs → ds[j]? = some c0 → isSc c0 = true → scal c v → TreeL w (ds.set j c) (vs.set j v) bs
  | [], _, _, _, _, _, _, _, h, _, _ => by simp at h
  | x :: xs, vs, bs, 0, c0, c, v, h, hj, hs, hc => by
    simp only [List.getElem?_cons_zero, Option.some.injEq] at hj
    subst hj
    simp only [TreeL] at h
    obtain ⟨v1, v2, b1, b2, rfl, rfl, hd, h1, h2⟩ := h
    have := sc_nil h1 hs
    subst this
    simp only [List.set_cons_zero, TreeL]
    exact ⟨v, v2, [], b2, rfl, rfl, hd, scal_tree hc, h2⟩
  | x :: xs, vs, bs, j + 1, c0, c, v, h, hj, hs, hc => by
    simp only [List.getElem?_cons_succ] at hj
    simp only [TreeL] at h
    obtain ⟨v1, v2, b1, b2, rfl, rfl, hd, h1, h2⟩ := h
    simp only [List.set_cons_succ, TreeL]
    exact ⟨v1, v2.set j v, b1, b2, rfl, rfl, hd, h1, treeL_set h2 hj hs hc⟩
/-- One cell of a tree, and what is left. -/
theorem treeL_at {w : World} : ∀ {ds : List DV} {vs : List Value} {bs : List Nat} {j : Nat} {c : DV}, TreeL w ds vs bs → ds[j]? = some c → ∃ x bd, vs[j]? = some x ∧ TreeV w c x bd ∧ (∀ b ∈ bd, b ∈ bs) ∧ ∀ w' c', TreeV w' c' x bd → FrameW bd w w' → TreeL w' (ds.set j c') vs bs
  | [], _, _, _, _, _, h => by simp at h
  | x :: xs, vs, bs, 0, c, h, hj => by
    simp only [List.getElem?_cons_zero, Option.some.injEq] at hj
    subst hj
    have h0 := h
    simp only [TreeL] at h
    obtain ⟨v1, v2, b1, b2, rfl, rfl, hd, h1, h2⟩ := h
    refine ⟨v1, b1, rfl, h1, fun b hb => by simp [hb], fun w' c' ht hF => ?_⟩
    simp only [List.set_cons_zero, TreeL]
    exact ⟨v1, v2, b1, b2, rfl, rfl, hd, ht, h2.frame fun b hb => hF.same b (h2.lt b hb) fun hin => hd b hin hb⟩
  | x :: xs, vs, bs, j + 1, c, h, hj => by
    simp only [List.getElem?_cons_succ] at hj
    simp only [TreeL] at h
    obtain ⟨v1, v2, b1, b2, rfl, rfl, hd, h1, h2⟩ := h
    obtain ⟨u, bd, k1, k2, k3, k4⟩ := treeL_at h2 hj
    refine ⟨u, bd, by simpa using k1, k2, fun b hb => by simp [k3 b hb], fun w' c' ht hF => ?_⟩
    simp only [List.set_cons_succ, TreeL]
    exact ⟨v1, v2, b1, b2, rfl, rfl, hd, h1.frame fun b hb => hF.same b (h1.lt b hb) fun hin => hd b hb (k3 b hin), k4 w' c' ht hF⟩

/-- Block b begins with these cells; the blocks F alone were written. -/
def MT (w0 : World) (F : List Nat) (b : Nat) (bs : List Nat) (ds : List DV) (w : World) : Prop := ∃ vs, cellsAt w b vs ∧ TreeL w ds vs bs ∧ b ∉ bs ∧ FrameW F w0 w
theorem MT.ext {w0 : World} {F : List Nat} {b : Nat} {bs : List Nat} {ds : List DV} {w w' : World} (hF : FrameW [] w w') (h : MT w0 F b bs ds w) : MT w0 F b bs ds w' := by
  obtain ⟨vs, h1, h2, h3, h4⟩ := h
  obtain ⟨arr, T, h5, _⟩ := id h1
  exact ⟨vs, h1.frame (hF.same b (Array.getElem?_eq_some_iff.1 h5).1 (by simp)), h2.frame fun x hx => hF.same x (h2.lt x hx) (by simp), h3, h4.trans (hF.mono (by simp))⟩
section
variable {P : Program} {n : Nat} {Q : Exit → Act → World → Prop} {env : List (Nat × Value)} {all : Array Oper} {rest : List Oper} {y : TypeId} {p : String} {f : Array Edge} {x x2 : Operand} {w0 : World} {F bs : List Nat} {b : Nat} {pre cs post : List DV}
theorem set_mid {pre cs post : List DV} {j : Nat} {c c0 : DV} (hj : cs[j]? = some c0) : (pre ++ (cs ++ post))[pre.length + j]? = some c0 ∧ (pre ++ (cs ++ post)).set (pre.length + j) c = pre ++ (cs.set j c ++ post) := by
  have hlt := (List.getElem?_eq_some_iff.1 hj).1
  constructor
  · rw [List.getElem?_append_right (by omega), List.getElem?_append_left (by omega)]
    simpa using hj
  · rw [List.set_append_right _ _ (by omega), List.set_append_left _ _ (by omega)]
    simp
theorem pr_store (TT : Tab P) {T off j : Nat} {c0 c : DV} {v : Value} (hx : pev env x = some (.pointer (some ⟨b, off, none⟩))) (hy : pev env x2 = some v) (hk : (TT.T T).t.known = true) (hsz : (TT.T T).size = 1) (hoff : off = pre.length + j) (hj : cs[j]? = some c0) (hc0 : isSc c0 = true) (hc : scal c v) (hbF : b ∈ F)
    (h : PR P n all rest Q env (MT w0 F b bs (pre ++ (cs.set j c ++ post)))) : PR P n all (⟨none, .store T x x2, y, p, f, none⟩ :: rest) Q env (MT w0 F b bs (pre ++ (cs ++ post))) := fun a w hs => by
  have h3 := hs.eval hx
  have h4 := hs.eval hy
  obtain ⟨vs, ⟨arr, T', h5, h6⟩, h7, h8, h9⟩ := hs.m
  obtain ⟨e1, e2⟩ := set_mid (pre := pre) (post := post) (c := c) hj
  have hlen := treeL_len h7
  have hlt : off < vs.length := by rw [hlen, hoff]; exact (List.getElem?_eq_some_iff.1 e1).1
  have hal : off < arr.size := by
    have := h6 off _ (List.getElem?_eq_getElem hlt)
    exact (Array.getElem?_eq_some_iff.1 this).1
  obtain ⟨hc1, hc2⟩ := scal_cell hc
  have hb0 : w.heap[b]? = some (.cells arr.toList.toArray T' (0, 0)) := by simpa using h5
  have hst := run_storeCells_at P b off T' v.cells.toList 0 arr.toList.toArray w hb0 (by rw [hc1]; simp; omega) (by rw [hc1]; intro u hu; simp at hu; subst hu; exact hc2)
  simp only [Nat.add_zero] at hst
  refine wpList_plain rfl fun K hK => wp_of_skip (w' := w.setRow b (arr.toList.take off ++ v.cells.toList ++ arr.toList.drop (off + v.cells.toList.length)).toArray) ?_ ?_
  · simp only [execOp, Instr.storeAt, h3, h4, Instr.sureAddr, storeVar, Sem.run_bind, Sem.run_pure, Result.andThen_ok, run_sizeOf_of w (TT.ok T) hk, hsz]
    rw [hc1] at hst ⊢
    simp at hst ⊢
    simp [hst]
  · generalize hw' : w.setRow b (arr.toList.take off ++ v.cells.toList ++ arr.toList.drop (off + v.cells.toList.length)).toArray = w'
    have hbk : w'.heap[b]? = some (.cells (arr.toList.take off ++ v.cells.toList ++ arr.toList.drop (off + v.cells.toList.length)).toArray T' (0, 0)) := by
      rw [← hw', setRow_heap w b arr.toList.toArray _ T' _ hb0]
    have hot : ∀ b', b' ≠ b → w'.heap[b']? = w.heap[b']? := fun b' hb' => by rw [← hw']; exact setRow_other w b b' _ hb'
    have hos : w'.os = w.os ∧ w'.tape = w.tape ∧ w'.output = w.output ∧ w'.heap.size = w.heap.size := by rw [← hw']; exact ⟨rfl, rfl, rfl, by simp⟩
    refine hK _ _ (h _ _ ⟨hs.sz, hs.df, hs.ev, vs.set off v, ⟨_, T', hbk, fun i u hu => ?_⟩, ?_, h8, h9.trans ⟨by rw [hos.2.2.2]; exact Nat.le_refl _, fun b' _ hn => hot b' fun e => hn (e ▸ hbF), hos.1, hos.2.1, hos.2.2.1⟩⟩)
    · rw [hc1]
      simp only [List.getElem?_toArray]
      rw [List.getElem?_set] at hu
      split at hu
      · rename_i e
        subst e
        simp only [hlt, if_true, Option.some.injEq] at hu
        subst hu
        rw [List.append_assoc, List.getElem?_append_right (by simp; omega)]
        have hz : off - (List.take off arr.toList).length = 0 := by simp; omega
        rw [hz]
        simp
      · rename_i e
        have h10 := h6 i u hu
        have hi : i < arr.size := (Array.getElem?_eq_some_iff.1 h10).1
        by_cases hio : i < off
        · rw [List.append_assoc, List.getElem?_append_left (by simp; omega), List.getElem?_take, if_pos hio]
          simpa using h10
        · rw [List.getElem?_append_right (by simp; omega), List.getElem?_drop]
          have : off + (#[v].toList).length + (i - (List.take off arr.toList ++ #[v].toList).length) = i := by simp; omega
          rw [this]
          simpa using h10
    · have h11 := treeL_set h7 e1 hc0 hc
      rw [e2] at h11
      rw [hoff]
      exact h11.frame fun b' hb' => hot b' fun e => h8 (e ▸ hb')
/-- Memory inside that memory is handed on. -/
theorem pr_inner (TT : Tab P) {T off j tl tm tk tr : Nat} {c c' : DV} {k k' : Int} {g : FuncId} {tys : Array TypeId} {y2 y3 : TypeId} {p2 p3 : String} {f2 f3 : Array Edge} (hm : MarkF P g (.d c) (.d c') k k') (hx : pev env x = some (.pointer (some ⟨b, off, none⟩))) (hkv : pev env (.tmp tk) = some (.int .i64 k)) (hk : (TT.T T).t.known = true) (hagg : (TT.T T).t.agg = false) (hsz : (TT.T T).size = 1) (hoff : off = pre.length + j) (hj : cs[j]? = some c) (hF : ∀ z ∈ bs, z ∈ F)
    (hb : tl < n ∧ tm < n ∧ tr < n) (hne : (offB [tl] tm && offB [tl] tk) = true)
    (h : PR P n all rest Q ((tr, .int .i64 k') :: env) (MT w0 F b bs (pre ++ (cs.set j c' ++ post)))) (hse : offB [tl, tm] tr = true) (hen : (env.all fun q => offB [tl, tm] q.1) = true) :
    PR P n all (⟨some tl, .load T x, y, p, f, none⟩ :: ⟨some tm, .move (.tmp tk), y2, p2, f2, none⟩ :: ⟨some tr, .call ⟨.value (.func g), #[.tmp tl, .tmp tm], tys⟩, y3, p3, f3, none⟩ :: rest) Q env (MT w0 F b bs (pre ++ (cs ++ post))) := fun a w hs => by
  have h3 := hs.eval hx
  obtain ⟨vs, ⟨arr, T', h5, h6⟩, h7, h8, h9⟩ := hs.m
  obtain ⟨e1, e2⟩ := set_mid (pre := pre) (post := post) (c := c') hj
  obtain ⟨u, bd, k1, k2, k3, k4⟩ := treeL_at h7 (by rw [← hoff] at e1; exact e1)
  have hcell : w.cell? ⟨b, off, none⟩ = some u := by simp only [World.cell?, h5]; simpa using h6 off u k1
  have hrun := run_loadVar_of (P := P) w (TT.ok T) hk ⟨b, off, none⟩ rfl [u] (by simp [hsz]) (fun _ => hsz) (fun i v hv => by
    cases i with
    | zero => simp at hv; subst hv; exact hcell
    | succ i => simp at hv)
  have hmk : mkC (TT.T T) [u] = u := by simp [mkC, hagg]
  rw [hmk] at hrun
  simp only [Bool.and_eq_true] at hne
  refine wpList_plain rfl fun K hK => wp_of_value (w' := w) (x := u) ?_ (hK _ _ ?_)
  · simp [execOp, h3, Instr.loadAt, Instr.sureAddr, hrun]
  clear hK K
  generalize ha1 : a.put (some tl) u = a1
  have s1 : a1.tmps.size = n := by rw [← ha1]; exact put_size hs.sz
  refine wpList_plain rfl fun K hK => wp_of_value (w' := w) (x := a1.eval (.tmp tk)) rfl (hK _ _ ?_)
  clear hK K
  generalize ha2 : a1.put (some tm) (a1.eval (.tmp tk)) = a2
  have s2 : a2.tmps.size = n := by rw [← ha2]; exact put_size s1
  have va : a2.tmps.getD tl undef = u := by
    rw [← ha2, put_ne s1 hb.2.1 (fun e => off_ne hne.1 (by simp) e.symm), ← ha1, put_at hs.sz hb.1]
  have vb : a2.tmps.getD tm undef = .int .i64 k := by
    rw [← ha2, put_at s1 hb.2.1]
    show a1.tmps.getD tk undef = _
    rw [← ha1, put_ne hs.sz hb.1 (off_ne hne.2 (by simp))]
    exact hs.ev tk _ hkv
  refine wpList_plain rfl fun K hK => ?_
  unfold Oper.wp
  have e : (execOp a2.eval ⟨some tr, .call ⟨.value (.func g), #[.tmp tl, .tmp tm], tys⟩, y3, p3, f3, none⟩).run P w = .ok (.enter g [u, Value.int .i64 k].toArray) w := by
    have := hm.1 [u, Value.int .i64 k].toArray w
    simp only [execOp, resolve, Act.eval, Deferred.ofValue, pure_bind, invoke, Array.empty_append]
    simpa [Act.eval, va, vb] using this
  rw [e]
  refine Calls.mono (hm.2 w u bd k2) fun e w' ⟨q1, q2, q3⟩ => ?_
  subst q1
  have hbn : b ∉ bd := fun hin => h8 (k3 b hin)
  refine hK _ _ (h _ _ ⟨put_size s2, ?_, fun t v ht => ?_, vs, ⟨arr, T', ?_, h6⟩, ?_, h8, h9.trans (q3.mono fun z hz => hF z (k3 z hz))⟩)
  · exact put_defers (by rw [← ha2]; exact put_defers (by rw [← ha1]; exact put_defers hs.df))
  · simp only [getP] at ht
    split at ht
    · rename_i e; subst e; cases ht; exact put_at s2 hb.2.2
    · rename_i e
      have hmem : ∀ (l : List (Nat × Value)), (l.all fun q => offB [tl, tm] q.1) = true → getP l t = some v → offB [tl, tm] t = true := by
        intro l
        induction l with
        | nil => intro _ h; cases h
        | cons q l ih =>
          intro hl hg
          simp only [List.all_cons, Bool.and_eq_true] at hl
          simp only [getP] at hg
          split at hg
          · rename_i e; rw [e]; exact hl.1
          · exact ih hl.2 hg
      have ho := hmem env hen ht
      rw [put_ne s2 hb.2.2 e, ← ha2, put_ne s1 hb.2.1 (off_ne ho (by simp)), ← ha1, put_ne hs.sz hb.1 (off_ne ho (by simp))]
      exact hs.ev t v ht
  · rw [q3.same b (Array.getElem?_eq_some_iff.1 h5).1 hbn]; exact h5
  · have := k4 w' c' q2 q3
    rw [hoff, e2] at this
    exact this
end

/-- The end of such a function. -/
def MQ (rt : Nat) (k' : Int) (Φ : World → Prop) (e : Exit) (a : Act) (w : World) : Prop := (e = .normal ∨ e = .ret) ∧ a.tmps.getD rt undef = .int .i64 k' ∧ a.defers = [] ∧ Φ w
theorem mark_of_body {P : Program} {g : FuncId} {fn : Func} {c : Code} {rt n : Nat} {d d' : AV} {k k' : Int} (hcall : CallOK P g) (hf : P.funcs[g]? = some fn) (hb : fn.body = some c) (hres : fn.results = #[.tmp rt]) (hnt : fn.ntmps = n) (hn : 2 ≤ n)
    (h : ∀ (w0 : World) (v : Value) (bs : List Nat), TreeA w0 d v bs → PW P n c (MQ rt k' fun w' => TreeA w' d' v bs ∧ FrameW bs w0 w') [(0, v), (1, .int .i64 k)] (fun w => w = w0)) : MarkF P g d d' k k' := by
  subst hnt
  refine ⟨hcall, fun w v bs ht => calls_of_wp hf hb ?_⟩
  have hsz : ([v, Value.int .i64 k].toArray ++ Array.replicate (fn.ntmps - [v, Value.int .i64 k].toArray.size) undef).size = fn.ntmps := by simp; omega
  refine Go.wp_mono (h w v bs ht _ w ⟨hsz, rfl, fun t u hu => ?_, rfl⟩) fun e a' w' ⟨he, h1, h2, h3⟩ => ?_
  · simp only [getP] at hu
    split at hu
    · rename_i e; subst e; cases hu
      simp only [Array.getD_eq_getD_getElem?]
      rw [Array.getElem?_append_left (by simp)]; simp
    · split at hu
      · rename_i e; subst e; cases hu
        simp only [Array.getD_eq_getD_getElem?]
        rw [Array.getElem?_append_left (by simp)]; simp
      · cases hu
  · have hr : (results fn a'.tmps).run P w' = .ok (.int .i64 k') w' := by
      have h1' : a'.tmps[rt]?.getD undef = .int .i64 k' := by simpa [Array.getD_eq_getD_getElem?] using h1
      unfold results
      rw [hres]
      simp [h1']
    have : bodyPost P fn (fun e w' => e = .returned (.int .i64 k') ∧ TreeA w' d' v bs ∧ FrameW bs w w') .ret a' w' := ⟨h2, _, hr, rfl, h3⟩
    rcases he with rfl | rfl <;> exact this

/-! ### Lists that are marked one element after the other -/
def mkL {α : Type} (f : α → Int → α) (c : α → Int) : List α → Int → List α
  | [], _ => []
  | x :: l, k => f x k :: mkL f c l (k + c x)
def cnL {α : Type} (c : α → Int) : List α → Int
  | [] => 0
  | x :: l => c x + cnL c l
theorem cnL_app {α : Type} (c : α → Int) : ∀ (l m : List α), cnL c (l ++ m) = cnL c l + cnL c m
  | [], m => by simp [cnL]
  | x :: l, m => by simp [cnL, cnL_app c l m]; omega
theorem cnL_nn {α : Type} (c : α → Int) (hc : ∀ x, 0 ≤ c x) : ∀ (l : List α), 0 ≤ cnL c l
  | [] => by simp [cnL]
  | x :: l => by have := cnL_nn c hc l; have := hc x; simp only [cnL]; omega
theorem mkL_len {α : Type} (f : α → Int → α) (c : α → Int) : ∀ (l : List α) (k : Int), (mkL f c l k).length = l.length
  | [], _ => rfl
  | x :: l, k => by simp [mkL, mkL_len f c l]
theorem mkL_app {α : Type} (f : α → Int → α) (c : α → Int) : ∀ (l m : List α) (k : Int), mkL f c (l ++ m) k = mkL f c l k ++ mkL f c m (k + cnL c l)
  | [], m, k => by simp [mkL, cnL]
  | x :: l, m, k => by simp [mkL, cnL, mkL_app f c l m, Int.add_assoc]
/-- What the cells hold when the first i elements are done. -/
def mixD {α : Type} (enc : α → List DV) (f : α → Int → α) (c : α → Int) (l : List α) (k : Int) (i : Nat) : List DV := ((mkL f c (l.take i) k).map enc).flatten ++ ((l.drop i).map enc).flatten
theorem mixD_0 {α : Type} (enc : α → List DV) (f : α → Int → α) (c : α → Int) (l : List α) (k : Int) : mixD enc f c l k 0 = (l.map enc).flatten := by simp [mixD, mkL]
theorem mixD_n {α : Type} (enc : α → List DV) (f : α → Int → α) (c : α → Int) (l : List α) (k : Int) : mixD enc f c l k l.length = ((mkL f c l k).map enc).flatten := by simp [mixD]
theorem flat_map_len {α : Type} {enc : α → List DV} {sz : Nat} (h : ∀ x, (enc x).length = sz) : ∀ l : List α, ((l.map enc).flatten).length = l.length * sz
  | [] => by simp
  | x :: l => by simp [flat_map_len h l, h x, Nat.add_mul]; omega
/-- Element i, and what it becomes. -/
theorem mixD_at {α : Type} (enc : α → List DV) (f : α → Int → α) (c : α → Int) {sz : Nat} (hsz : ∀ x, (enc x).length = sz) {l : List α} {i : Nat} {x : α} {rest : List α} (k : Int) (h : l.drop i = x :: rest) (hi : i ≤ l.length) :
    ∃ pre post : List DV, pre.length = i * sz ∧ mixD enc f c l k i = pre ++ (enc x ++ post) ∧ mixD enc f c l k (i + 1) = pre ++ (enc (f x (k + cnL c (l.take i))) ++ post) ∧ cnL c (l.take (i + 1)) = cnL c (l.take i) + c x := by
  have hd : l.drop (i + 1) = rest := by
    have : l.drop (i + 1) = (l.drop i).drop 1 := by rw [List.drop_drop]
    rw [this, h]; rfl
  have hx : l[i]? = some x := by
    have : (l.drop i)[0]? = some x := by rw [h]; rfl
    simpa using this
  have ht : l.take (i + 1) = l.take i ++ [x] := by rw [List.take_add_one, hx]; rfl
  refine ⟨((mkL f c (l.take i) k).map enc).flatten, (rest.map enc).flatten, ?_, ?_, ?_, ?_⟩
  · rw [flat_map_len hsz, mkL_len, List.length_take, Nat.min_eq_left hi]
  · simp [mixD, h]
  · rw [mixD, ht, mkL_app, hd]
    simp [mkL]
  · rw [ht, cnL_app]; simp [cnL]
end Go.AL

namespace Go.AL
open Go
set_option linter.unusedSectionVars false
variable [Inhabited Glob] [Inhabited NoLend]
set_option linter.unusedSimpArgs false
set_option linter.unusedVariables false
/-! ### Results that own their memory -/
def ownA : AV → List Nat → Prop
  | .d c, t => ownD c t
  | .agg cs, t => ownL cs t
  | .tup [.d c, .d (.bool _)], t => ownD c t
  | .tup [.agg cs, .d (.bool _)], t => ownL cs t
  | _, _ => False
/-- What a function hands back: this value, in memory of its own. -/
def OwnR (r : AV) (n : Nat) (v : AV) (o : List AO) (t : List Nat) (m : Nat) : Prop := o = [] ∧ ownA v t ∧ (∀ x ∈ t, n ≤ x ∧ x < m) ∧ v.erR = r ∧ n ≤ m
theorem own_d {v : AV} {t : List Nat} {c : DV} (h : ownA v t) (he : v.erR = .d c) : ∃ D, v = .d D ∧ D.er = c ∧ ownD D t := by
  cases v with
  | d D => exact ⟨D, rfl, by simpa [AV.erR, AV.er] using he, h⟩
  | agg cs => simp [AV.erR, AV.er] at he
  | tup vs => simp [AV.erR] at he
  | _ => exact h.elim
theorem own_agg {v : AV} {t : List Nat} {c : List DV} (h : ownA v t) (he : v.erR = .agg c) : ∃ D, v = .agg D ∧ erL D = c ∧ ownL D t ∧ D.length = c.length := by
  cases v with
  | agg cs =>
    have : erL cs = c := by simpa [AV.erR, AV.er] using he
    exact ⟨cs, rfl, this, h, by rw [← this, erL_eq]; simp⟩
  | d D => simp [AV.erR, AV.er] at he
  | tup vs => simp [AV.erR] at he
  | _ => exact h.elim
theorem own_tupd {v : AV} {t : List Nat} {c : DV} {b : Bool} (h : ownA v t) (he : v.erR = .tup [.d c, .d (.bool b)]) : ∃ D, v = .tup [.d D, .d (.bool b)] ∧ D.er = c ∧ ownD D t := by
  unfold ownA at h
  split at h
  · simp [AV.erR, AV.er] at he
  · simp [AV.erR, AV.er] at he
  · rename_i x y
    simp only [AV.erR, List.map_cons, List.map_nil, AV.er, DV.er, AV.tup.injEq, List.cons.injEq, AV.d.injEq, DV.bool.injEq, and_true] at he
    exact ⟨x, by rw [he.2], he.1, h⟩
  · simp [AV.erR, AV.er] at he
  · exact h.elim
/-- A slice that grows: it has nothing, or a token of its own. -/
def ownS (own : Own) (n nt : Nat) (e : Prop) : Prop := (own = .full ∧ e) ∨ ∃ t, own = .tok t ∧ n ≤ t ∧ t < nt
theorem ownS_lt {own : Own} {n nt : Nat} {e : Prop} (h : ownS own n nt e) : ownLt own nt := by
  rcases h with ⟨rfl, _⟩ | ⟨t, rfl, _, h⟩
  · trivial
  · exact h
theorem ownS_mono {own : Own} {n nt nt' : Nat} {e e' : Prop} (h : ownS own n nt e) (hn : nt ≤ nt') (he : e → e') : ownS own n nt' e' := by
  rcases h with ⟨h, h1⟩ | ⟨t, h, h1, h2⟩
  · exact .inl ⟨h, he h1⟩
  · exact .inr ⟨t, h, h1, by omega⟩
theorem ownS_tok {n nt : Nat} {e : Prop} (h : n ≤ nt) : ownS (.tok nt) n (nt + 1) e := .inr ⟨nt, rfl, h, by omega⟩
theorem ownLL_flat : ∀ {xs : List (List DV)}, (∀ x ∈ xs, ownL x []) → ownLL xs []
  | [], _ => rfl
  | x :: xs, h => ⟨[], [], rfl, fun y hy => by simp at hy, h x (by simp), ownLL_flat fun y hy => h y (by simp [hy])⟩
theorem ownS_own {own : Own} {n nt sz : Nat} {xs : List (List DV)} (h : ownS own n nt (xs = [])) (hx : ∀ x ∈ xs, ownL x []) : ownD (.sl sz xs own) (tkOf own) ∧ ∀ x ∈ tkOf own, n ≤ x ∧ x < nt := by
  rcases h with ⟨rfl, rfl⟩ | ⟨t, rfl, h1, h2⟩
  · exact ⟨.inl ⟨rfl, rfl⟩, fun x hx => by simp [tkOf] at hx⟩
  · refine ⟨.inr ⟨t, [], rfl, rfl, by simp, ownLL_flat hx⟩, fun x hx => ?_⟩
    simp [tkOf] at hx
    subst hx
    exact ⟨h1, h2⟩
theorem disj_lt {a b : List Nat} {m : Nat} (ha : ∀ x ∈ a, x < m) (hb : ∀ x ∈ b, m ≤ x) : Disj a b := fun x h1 h2 => by
  have := ha x h1
  have := hb x h2
  omega
theorem cnL_split {α : Type} (c : α → Int) {l : List α} {i : Nat} {x : α} {rest : List α} (h : l.drop i = x :: rest) : cnL c l = cnL c (l.take i) + (c x + cnL c rest) := by
  have : cnL c l = cnL c (l.take i ++ l.drop i) := by rw [List.take_append_drop]
  rw [this, cnL_app, h, cnL]
theorem mrep1 (k : Int) : ∀ (I : IH) (τ : TH) (ρ : Nat → Nat), RepAs I τ ρ 0 [.d (.int .i64 k)] [.int .i64 k] := fun _ _ _ => ⟨rfl, fun i v x hv hx => by
  cases i with
  | zero => simp at hv hx; subst hv hx; exact .d _ _ (.int _ _)
  | succ i => simp at hv⟩
theorem mrepS (s : List UInt8) : ∀ (I : IH) (τ : TH) (ρ : Nat → Nat) (u : Value), RepA I τ ρ 0 (.d (.str s)) u → u = .string ⟨s.toArray⟩ := fun _ _ _ _ h => (rep_str h).1
theorem cnL_const {α : Type} {c : α → Int} {m : Int} (h : ∀ x, c x = m) : ∀ l : List α, cnL c l = m * l.length
  | [] => by simp [cnL]
  | x :: l => by
    simp only [cnL, cnL_const h l, h x, List.length_cons]
    rw [show ((l.length + 1 : Nat) : Int) = (l.length : Int) + 1 by omega, Int.mul_add]
    omega
end Go.AL
namespace Go.AL
open Go
set_option linter.unusedSectionVars false
variable [Inhabited Glob] [Inhabited NoLend]
/-- A walk that is to wait here. -/
structure Stop (p : Prop) : Prop where
  out : p
theorem Stop.go {P : Program} {E : Ent} {c : Code} {Q : Exit → AS → Prop} {s : AS} (h : Stop (AWp P E c Q s)) : AWp P E c Q s := h.out
theorem QB_ret {rt : Nat} {s : AS} (h : getE s.env rt = .d (.bool true)) : QB rt .ret s := h
end Go.AL
namespace Go.AL
open Go
set_option linter.unusedSectionVars false
variable [Inhabited Glob] [Inhabited NoLend]
theorem ownD_sc {c : DV} (h : isSc c = true) : ownD c [] := by
  cases c <;> simp_all [isSc, ownD]
theorem ownL_sc : ∀ {cs : List DV}, cs.all isSc = true → ownL cs []
  | [], _ => by simp [ownL]
  | c :: cs, h => by
    simp only [List.all_cons, Bool.and_eq_true] at h
    simp only [ownL]
    exact ⟨[], [], rfl, fun x hx => by simp at hx, ownD_sc h.1, ownL_sc h.2⟩
theorem ownD_tok {sz t : Nat} {xs : List (List DV)} {ts : List Nat} (ht : t ∉ ts) (h : ownLL xs ts) : ownD (.sl sz xs (.tok t)) (t :: ts) := by
  simp only [ownD]
  exact .inr ⟨t, ts, rfl, rfl, ht, h⟩
theorem ownLL_map {α : Type} {enc : α → List DV} (h : ∀ x, (enc x).all isSc = true) (l : List α) : ownLL (l.map enc) [] := ownLL_flat fun x hx => by
  obtain ⟨y, _, rfl⟩ := List.mem_map.1 hx
  exact ownL_sc (h y)
end Go.AL
namespace Go.AL
open Go
set_option linter.unusedSectionVars false
variable [Inhabited Glob] [Inhabited NoLend]
theorem keep_own {I0 : IH} {T t : List Nat} {D : DV} (h : ownD D t) (hT : ∀ x ∈ t, x ∈ T) : keepD I0 T D := by
  cases D with
  | sl sz xs own => exact ⟨t, h, hT⟩
  | pin c v => simp only [ownD] at h
  | _ => trivial
end Go.AL
namespace Go.AL
open Go
set_option linter.unusedSectionVars false
variable [Inhabited Glob] [Inhabited NoLend]
def MTV (w0 : World) (F : List Nat) (b : Nat) (bs : List Nat) (vs : List Value) (ds : List DV) (w : World) : Prop := cellsAt w b vs ∧ TreeL w ds vs bs ∧ b ∉ bs ∧ FrameW F w0 w
section
variable {P : Program} {n : Nat} {Q : Exit → Act → World → Prop} {env : List (Nat × Value)} {all : Array Oper} {rest : List Oper} {y : TypeId} {p : String} {f : Array Edge} {x x2 : Operand} {w0 : World} {F bs : List Nat} {b : Nat} {pre cs post : List DV}
end
end Go.AL
namespace Go.AL
open Go
set_option linter.unusedSectionVars false
variable [Inhabited Glob] [Inhabited NoLend]
theorem pw_seqrK {P : Program} {n : Nat} {Q : Exit → Act → World → Prop} {env : List (Nat × Value)} {M : World → Prop} {id : Nat} {l : List Oper} {y : Code}
    (h : ∀ K : Exit → Act → World → Prop, (∀ env M, PW P n y Q env M → PQ n K .normal env M) → PR P n l.toArray l K env M) : PW P n (.seq (.region id l.toArray false) y) Q env M :=
  pw_seqr (h _ fun _ _ h => h)
theorem pw_regionK {P : Program} {n : Nat} {Q : Exit → Act → World → Prop} {env : List (Nat × Value)} {M : World → Prop} {id : Nat} {l : List Oper}
    (h : ∀ K : Exit → Act → World → Prop, (∀ env M, PQ n Q .normal env M → PQ n K .normal env M) → PR P n l.toArray l K env M) : PW P n (.region id l.toArray false) Q env M :=
  pw_region (h _ fun _ _ h => h)
end Go.AL
namespace Go.AL
open Go
set_option linter.unusedSectionVars false
variable [Inhabited Glob] [Inhabited NoLend]
theorem ownLL_snoc {y : List DV} {u : List Nat} : ∀ {xs : List (List DV)} {t : List Nat}, ownLL xs t → ownL y u → Disj t u → ownLL (xs ++ [y]) (t ++ u)
  | [], t, h, hy, hd => by
    simp only [ownLL] at h
    subst h
    simp only [List.nil_append, ownLL]
    exact ⟨u, [], by simp, fun x _ hx => by simp at hx, hy, rfl⟩
  | x :: xs, t, h, hy, hd => by
    simp only [ownLL] at h
    obtain ⟨t1, t2, rfl, h1, h2, h3⟩ := h
    simp only [List.cons_append, ownLL]
    exact ⟨t1, t2 ++ u, by simp, app_disj' h1 (disj_app hd).1, h2, ownLL_snoc h3 hy (disj_app hd).2⟩
theorem ownL_one {a : DV} {t : List Nat} (h : ownD a t) : ownL [a] t := by
  simp only [ownL]
  exact ⟨t, [], by simp, fun x _ hx => by simp at hx, h, rfl⟩
theorem ownL_cons {a : DV} {t u : List Nat} {cs : List DV} (h : ownD a t) (hc : ownL cs u) (hd : Disj t u) : ownL (a :: cs) (t ++ u) := by
  simp only [ownL]
  exact ⟨t, u, rfl, hd, h, hc⟩
end Go.AL
namespace Go.AL
open Go
set_option linter.unusedSectionVars false
variable [Inhabited Glob] [Inhabited NoLend]
theorem cnL_le {α : Type} (c : α → Int) {m : Int} (hm : 0 ≤ m) : ∀ {l : List α}, (∀ x ∈ l, c x ≤ m) → cnL c l ≤ m * l.length
  | [], _ => by simp [cnL]
  | x :: l, h => by
    have h1 := h x (by simp)
    have h2 := cnL_le c hm (l := l) fun y hy => h y (by simp [hy])
    simp only [cnL, List.length_cons]
    rw [show ((l.length + 1 : Nat) : Int) = (l.length : Int) + 1 by omega, Int.mul_add]
    omega
theorem mul_big {m n : Int} {a : Nat} (h : n ≤ m * a) (hm : 0 ≤ m) (hm2 : m ≤ 8388608) (ha : a ≤ 1048576) : n ≤ 8796093022208 := by
  have h1 : m * (a : Int) ≤ 8388608 * (a : Int) := Int.mul_le_mul_of_nonneg_right hm2 (by omega)
  omega
end Go.AL

set_option linter.unusedSimpArgs false
set_option linter.unusedVariables false
namespace Go.AL
open Go
set_option linter.unusedSectionVars false
variable [Inhabited Glob] [Inhabited NoLend]
end Go.AL
namespace Go.AL
open Go
set_option linter.unusedSectionVars false
variable [Inhabited Glob] [Inhabited NoLend]
/-- A slice that grows by elements that own their memory. -/
def ownG (X : List (List DV)) (us : List Nat) (own : Own) (n nt : Nat) : Prop := ownLL X us ∧ (∀ t ∈ us, n ≤ t ∧ t < nt) ∧ ownS own n nt (X = []) ∧ (∀ t ∈ tkOf own, t ∉ us) ∧ n ≤ nt
theorem ownG_0 {n nt : Nat} (h : n ≤ nt) : ownG [] [] .full n nt := ⟨by simp [ownLL], by simp, .inl ⟨rfl, rfl⟩, by simp [tkOf], h⟩
theorem ownG_push {X : List (List DV)} {us t1 : List Nat} {own : Own} {n nt m : Nat} {c : List DV} (h : ownG X us own n nt) (hc : ownL c t1) (h1 : ∀ t ∈ t1, nt ≤ t ∧ t < m) (hm : nt ≤ m) : ownG (X ++ [c]) (us ++ t1) (.tok m) n (m + 1) := by
  obtain ⟨g1, g2, g3, g4, g5⟩ := h
  refine ⟨ownLL_snoc g1 hc fun x hx hy => by have := (g2 x hx).2; have := (h1 x hy).1; omega, fun t ht => ?_, ownS_tok (by omega), fun t ht hin => ?_, by omega⟩
  · rcases List.mem_append.1 ht with h | h
    · have := g2 t h; omega
    · have := h1 t h; omega
  · simp [tkOf] at ht
    subst ht
    rcases List.mem_append.1 hin with h | h
    · have := (g2 t h).2; omega
    · have := (h1 t h).2; omega
end Go.AL

namespace Go.AL
open Go
set_option linter.unusedSectionVars false
variable [Inhabited Glob] [Inhabited NoLend]
set_option linter.unusedSimpArgs false
set_option linter.unusedVariables false
section
variable {P : Program} {n : Nat} {Q : Exit → Act → World → Prop} {env : List (Nat × Value)} {all : Array Oper} {rest : List Oper} {y : TypeId} {p : String} {f : Array Edge} {x x2 : Operand} {w0 : World} {F bs : List Nat} {b : Nat} {pre cs post : List DV}
end
end Go.AL

namespace Go.AL
open Go
set_option linter.unusedSectionVars false
variable [Inhabited Glob] [Inhabited NoLend]
set_option linter.unusedSimpArgs false
set_option linter.unusedVariables false
/-! ### What is left of a region, told by states: calls whose arguments keep their owners -/
def Sem (P : Program) (E : Ent) (all : Array Oper) (l : List Oper) (Q : Exit → AS → Prop) (s : AS) : Prop :=
  (l.all fun o => o.dst.all fun d => decide (d < E.n)) = true → ∀ (a : Act) (w : World), Sim E s a w → wpList P all (fun e a' w' => ∃ s', Q e s' ∧ Sim E s' a' w') l a w
theorem rvc_soundS {P : Program} {TT : Tab P} {E : Ent} {all : Array Oper} {K : AS → Prop} {Q : Exit → Act → World → Prop} {suf : List Oper} (hq : ∀ s' a' w', K s' → Sim E s' a' w' → wpList P all Q suf a' w') :
    ∀ (rest : List Oper) (s : AS) (a : Act) (w : World), (rest.all fun o => o.dst.all fun d => decide (d < E.n)) = true → Sim E s a w → rvc TT E (all.toList.map (·.dst)) rest s K → wpList P all Q (rest ++ suf) a w := by
  intro rest
  induction rest with
  | nil => intro s a w _ hs h; exact hq s a w h hs
  | cons o rest ih =>
    intro s a w hd hs h
    obtain ⟨dst, op, ty, pos, after, guard⟩ := o
    simp only [List.all_cons, Bool.and_eq_true] at hd
    have hdst : ∀ d, dst = some d → d < E.n := fun d hdd => by
      have := hd.1
      simp only [hdd, Option.all_some, decide_eq_true_eq] at this
      exact this
    have hstep := step_ok (P := P) (E := E) (s := s) (ty := ty) TT op
    have go : ∀ (g : Option (Nat × Bool)), (match stp TT s op with
      | .ok pre fact v s' => pre ∧ (fact → rvc TT E (all.toList.map (·.dst)) rest (s'.put dst v) K)
      | .call g args => CallV P E s g args fun v s' => rvc TT E (all.toList.map (·.dst)) rest (s'.put dst v) K
      | .stop => False) → (Oper.mk dst op ty pos after g).wp P a w (wpList P all Q (rest ++ suf)) Q := by
      intro g hr
      cases hst : stp TT s op with
      | ok pre fact v s' =>
        rw [hst] at hr hstep
        refine (hstep hr.1).wp hs hdst fun v0 s0 ⟨h1, h2, h3⟩ _ a' w' hs' => ?_
        subst h2; subst h3
        exact ih _ a' w' hd.2 hs' (hr.2 h1)
      | call f args =>
        rw [hst] at hr hstep
        exact (hstep _ hr).wp hs hdst fun v0 s0 hk _ a' w' hs' => ih _ a' w' hd.2 hs' hk
      | stop => rw [hst] at hr; exact hr.elim
    rw [List.cons_append]
    unfold wpList
    cases guard with
    | none =>
      rw [if_pos (by simp [Region.wanted])]
      exact .inl (go none h)
    | some jw =>
      obtain ⟨j, want⟩ := jw
      simp only [rvc] at h
      split at h
      · rename_i t ht
        split at h
        · rename_i b hb
          obtain ⟨I, τ, ρ, h1, h2⟩ := hs.ex
          have hv := h2 t
          rw [hb] at hv
          have hbv := rep_bool hv
          have hy : yielded all a.tmps j = some b := by
            simp only [List.getElem?_map, Array.getElem?_toList, Option.map_eq_some_iff] at ht
            obtain ⟨o, ho, hod⟩ := ht
            have hbv' : a.tmps[t]? = some (.bool b) := by
              simp only [Array.getD_eq_getD_getElem?] at hbv
              cases hq : a.tmps[t]? with
              | none => rw [hq] at hbv; simp [undef] at hbv
              | some x => rw [hq] at hbv; simpa using hbv
            simp [yielded, ho, hod, hbv']
          by_cases hw : b = want
          · rw [if_pos (by simp [Region.wanted, hy, hw])]
            exact .inl (go _ (h.1 hw))
          · rw [if_neg (by simp [Region.wanted, hy, hw])]
            refine ih _ _ w hd.2 ?_ (h.2 (by cases b <;> cases want <;> simp_all))
            exact (undef_res hs).sim dst hs.sz hs.df hdst
        · rename_i hb
          obtain ⟨I, τ, ρ, h1, h2⟩ := hs.ex
          have hv := h2 t
          rw [hb] at hv
          have hbv := rep_undef hv
          have hy : yielded all a.tmps j = none := by
            simp only [List.getElem?_map, Array.getElem?_toList, Option.map_eq_some_iff] at ht
            obtain ⟨o, ho, hod⟩ := ht
            simp only [Array.getD_eq_getD_getElem?] at hbv
            cases hq : a.tmps[t]? with
            | none => simp [yielded, ho, hod, hq]
            | some x => rw [hq] at hbv; simp at hbv; subst hbv; simp [yielded, ho, hod, hq, undef]
          rw [if_neg (by simp [Region.wanted, hy])]
          exact ih _ _ w hd.2 ((undef_res hs).sim dst hs.sz hs.df hdst) h
        · exact h.elim
      · exact h.elim

section
variable {P : Program} {E : Ent} {all : Array Oper} {Q : Exit → AS → Prop} {s : AS} {rest l : List Oper} {dst : Option Nat} {ty : TypeId} {pos : String} {after : Array Edge}
/-- A region, up to its operation k. -/
theorem awp_regionS (TT : Tab P) {id : Nat} (k : Nat)
    (h : ∀ K : AS → Prop, (∀ s', Sem P E l.toArray (l.drop k) Q s' → K s') → rvc TT E (l.map (·.dst)) (l.take k) s K) : AWp P E (.region id l.toArray false) Q s := fun hok a w hs => by
  simp only [codeOK] at hok
  have hok' : (l.all fun o => o.dst.all fun d => decide (d < E.n)) = true := by simpa using hok
  have h1 : ((l.take k).all fun o => o.dst.all fun d => decide (d < E.n)) = true := List.all_eq_true.2 fun o ho => List.all_eq_true.1 hok' o (List.mem_of_mem_take ho)
  have h2 : ((l.drop k).all fun o => o.dst.all fun d => decide (d < E.n)) = true := List.all_eq_true.2 fun o ho => List.all_eq_true.1 hok' o (List.mem_of_mem_drop ho)
  refine wp_region_lit ?_
  have key := rvc_soundS (TT := TT) (all := l.toArray) (K := Sem P E l.toArray (l.drop k) Q) (Q := fun e a' w' => ∃ s', Q e s' ∧ Sim E s' a' w') (suf := l.drop k) (fun s' a' w' hk hs' => hk h2 a' w' hs') (l.take k) s a w h1 hs (by
    have := h _ (fun _ h => h)
    simpa using this)
  rw [List.take_append_drop] at key
  exact key
theorem awp_seqrS (TT : Tab P) {id : Nat} (k : Nat) {y : Code}
    (h : ∀ K : AS → Prop, (∀ s', Sem P E l.toArray (l.drop k) (AThen (AWp P E y Q) Q) s' → K s') → rvc TT E (l.map (·.dst)) (l.take k) s K) : AWp P E (.seq (.region id l.toArray false) y) Q s :=
  awp_seq (awp_regionS TT k h)
theorem sem_op {op : Op} {K : AV → AS → Prop} (h : OpOK P E s op ty K) (hK : ∀ v s', K v s' → Sem P E all rest Q (s'.put dst v)) : Sem P E all (⟨dst, op, ty, pos, after, none⟩ :: rest) Q s := fun hd a w hs => by
  simp only [List.all_cons, Bool.and_eq_true] at hd
  have hdst : ∀ d, dst = some d → d < E.n := fun d hdd => by
    have := hd.1
    simp only [hdd, Option.all_some, decide_eq_true_eq] at this
    exact this
  exact wpList_plain rfl fun K' hK' => h.wp hs hdst fun v s' hk _ a' w' hs' => hK' _ _ (hK v s' hk hd.2 a' w' hs')
theorem sem_rvc (TT : Tab P) (h : ∀ K : AS → Prop, (∀ s', Q .normal s' → K s') → rvc TT E (all.toList.map (·.dst)) l s K) : Sem P E all l Q s := fun hd a w hs =>
  rvc_sound (TT := TT) (K := Q .normal) (fun s' a' w' hk hs' => ⟨s', hk, hs'⟩) l s a w hd hs (h _ fun _ h => h)
end
end Go.AL

namespace Go.AL
open Go
set_option linter.unusedSectionVars false
variable [Inhabited Glob] [Inhabited NoLend]
set_option linter.unusedSimpArgs false
set_option linter.unusedVariables false
/-! ### A body that begins with pinned elements -/
/-- A number, a truth, a text, or a value that is old. -/
def oldD (I0 : IH) : DV → Prop
  | .pin c v => RepD I0 (fun _ => none) c v
  | .sl _ _ _ => False
  | _ => True
def oldL (I0 : IH) : List DV → Prop
  | [] => True
  | c :: cs => oldD I0 c ∧ oldL I0 cs
def oldLL (I0 : IH) : List (List DV) → Prop
  | [] => True
  | x :: xs => oldL I0 x ∧ oldLL I0 xs
mutual
theorem DV.er_er : ∀ c : DV, c.er.er = c.er
  | .int _ _ => rfl
  | .bool _ => rfl
  | .str _ => rfl
  | .sl sz xs o => by simp only [DV.er, erLL_erLL xs]
  | .pin c v => by simp only [DV.er]; exact DV.er_er c
theorem erLL_erLL : ∀ xs : List (List DV), erLL (erLL xs) = erLL xs
  | [] => rfl
  | x :: xs => by simp only [erLL, erL_erL x, erLL_erLL xs]
theorem erL_erL : ∀ xs : List DV, erL (erL xs) = erL xs
  | [] => rfl
  | x :: xs => by simp only [erL, DV.er_er x, erL_erL xs]
end
def pinLL (vals : Nat → Value) (sz : Nat) : Nat → List (List DV) → List (List DV)
  | _, [] => []
  | i, x :: xs => pnL (fun j => vals (i * sz + j)) 0 x :: pinLL vals sz (i + 1) xs
/-! ### A call that takes an element out of a slice in place -/
/-- What slices.Delete(s, i, i+1) does to memory. -/
def DelF (P : Program) (g : FuncId) (sz : Nat) : Prop :=
  CallOK P g ∧ ∀ (w : World) (b n cap i : Nat) (arr : Array Value) (T : TypeId), w.heap[b]? = some (.cells arr T (0, 0)) → arr.size = cap * sz → i < n → n ≤ cap → cap ≤ 9223372036854775807 → (∀ (j : Nat) v, j < n * sz → arr[j]? = some v → v.oneCell' = true) →
    Calls P g [Value.slice (some ⟨b, 0, none⟩) n cap, Value.int .i64 i, Value.int .i64 ((i : Int) + 1)].toArray w fun e w' => e = .returned (.slice (some ⟨b, 0, none⟩) (n - 1) cap) ∧ (∃ arr', w'.heap[b]? = some (.cells arr' T (0, 0)) ∧ arr'.size = arr.size ∧ ∀ j, j < (n - 1) * sz → arr'[j]? = if j < i * sz then arr[j]? else arr[j + sz]?) ∧ FrameW [b] w w'
end Go.AL

namespace Go.AL
open Go
set_option linter.unusedSectionVars false
variable [Inhabited Glob] [Inhabited NoLend]
set_option linter.unusedSimpArgs false
set_option linter.unusedVariables false
/-! ### A block that its token's bearer writes anew -/
def redoI (I : IH) (b e : Nat) (arr : Array Value) : IH := fun b' o => if b' = b then (if o < e then arr[o]? else none) else I b' o
theorem redoI_in {I : IH} {b e o : Nat} {arr : Array Value} (h : o < e) : redoI I b e arr b o = arr[o]? := by simp [redoI, h]
theorem redoI_out {I : IH} {b e b' o : Nat} {arr : Array Value} (h : b' ≠ b) : redoI I b e arr b' o = I b' o := by simp [redoI, h]
theorem St.redo {E : Ent} {objs : List AO} {toks : List Nat} {nt : Nat} {I : IH} {τ : TH} {ρ : Nat → Nat} {w w' : World} (h : St E objs toks nt I τ ρ w) (hk : E.k = 0) {t b e r : Nat} (ht : t ∈ toks) (hb : τ t = some (b, e, r))
    {arr : Array Value} {T : TypeId} {e' : Nat} (hF : FrameW [b] w w') (hw : w'.heap[b]? = some (.cells arr T (0, 0))) (hr : arr.size = r) :
    St E [] (nt :: toks.filter (· != t)) (nt + 1) (redoI I b e' arr) (updT τ nt (some (b, e', r))) ρ w' ∧ b < w.heap.size ∧ E.w0.heap.size ≤ b := by
  obtain ⟨g1, gt⟩ := h.tok t ht
  obtain ⟨gbo, ⟨cur, T0, g2, g3⟩, g4, g5⟩ := gt _ _ _ hb
  have gb := gbo.resolve_right (E.nolb _)
  have hbs : b < w.heap.size := (Array.getElem?_eq_some_iff.1 g2).1
  have hsame : ∀ b', b' < w.heap.size → b' ≠ b → w'.heap[b']? = w.heap[b']? := fun b' hb' hne => hF.same b' hb' (by simpa using hne)
  have hne : ∀ u ∈ toks, u ≠ nt := fun u hu => Nat.ne_of_lt (h.tok u hu).1
  have hoth : ∀ u ∈ toks.filter (· != t), u ∈ toks ∧ u ≠ t := fun u hu => by simpa using hu
  have hblk : ∀ u ∈ toks.filter (· != t), ∀ b1 e1 r1, τ u = some (b1, e1, r1) → b1 ≠ b := fun u hu b1 e1 r1 h1 he => (hoth u hu).2 (h.tokd u (hoth u hu).1 t ht _ _ _ _ _ _ h1 hb he)
  refine ⟨⟨fun b' o u hu => ?_, fun j o ho => by simp at ho, fun j hj => by simp at hj, fun j k hj => by simp at hj, fun u hu => ?_, fun u hu u' hu' b1 e1 r1 b2 e2 r2 h1 h2 he => ?_, hF.os.trans h.os, hF.tape.trans h.tape, hF.output.trans h.output, Nat.le_trans h.size hF.size, fun b' hb' hi => ?_, fun b' hb' o => ?_, fun b' hb' => absurd hb' (E.nolb b'), fun j hj => by omega, fun j hj hj' => by simp at hj', fun u hu => ?_, by simp [hk], by have := h.ntle; omega, h.i0, fun u hu => ?_⟩, hbs, gb⟩
  · by_cases hbb : b' = b
    · subst hbb
      simp only [redoI, if_true] at hu
      split at hu
      · simp only [World.cell?, hw]; simpa using hu
      · cases hu
    · rw [redoI_out hbb] at hu
      have hlt := h.lt_of_I hu
      have := h.iok b' o u hu
      simpa [World.cell?, hsame b' hlt hbb] using this
  · rcases List.mem_cons.1 hu with rfl | hu
    · refine ⟨by omega, fun b' e1 r1 hb' => ?_⟩
      rw [updT_new] at hb'
      simp only [Option.some.injEq, Prod.mk.injEq] at hb'
      obtain ⟨rfl, rfl, rfl⟩ := hb'
      exact ⟨.inl gb, ⟨arr, T, hw, hr⟩, fun o ho => by simp only [redoI, if_true]; rw [if_neg (by omega)], fun j hj => by simp at hj⟩
    · obtain ⟨k1, k2⟩ := h.tok u (hoth u hu).1
      refine ⟨by omega, fun b' e1 r1 hb' => ?_⟩
      simp only [updT, if_neg (hne u (hoth u hu).1)] at hb'
      obtain ⟨q1, ⟨c, T1, q2, q3⟩, q4, q5⟩ := k2 _ _ _ hb'
      have hb1 := hblk u hu _ _ _ hb'
      exact ⟨q1, ⟨c, T1, by rw [hsame b' (Array.getElem?_eq_some_iff.1 q2).1 hb1]; exact q2, q3⟩, fun o ho => by rw [redoI_out hb1]; exact q4 o ho, fun j hj => by simp at hj⟩
  · rcases List.mem_cons.1 hu with e1' | hu1
    · rcases List.mem_cons.1 hu' with e2' | hu2
      · rw [e1', e2']
      · exfalso
        subst e1'
        rw [updT_new] at h1
        simp only [Option.some.injEq, Prod.mk.injEq] at h1
        simp only [updT, if_neg (hne u' (hoth u' hu2).1)] at h2
        exact hblk u' hu2 _ _ _ h2 (he ▸ h1.1.symm)
    · rcases List.mem_cons.1 hu' with e2' | hu2
      · exfalso
        subst e2'
        rw [updT_new] at h2
        simp only [Option.some.injEq, Prod.mk.injEq] at h2
        simp only [updT, if_neg (hne u (hoth u hu1).1)] at h1
        exact hblk u hu1 _ _ _ h1 (he.trans h2.1.symm)
      · simp only [updT, if_neg (hne u (hoth u hu1).1)] at h1
        simp only [updT, if_neg (hne u' (hoth u' hu2).1)] at h2
        exact h.tokd u (hoth u hu1).1 u' (hoth u' hu2).1 _ _ _ _ _ _ h1 h2 he
  · rw [hsame b' (Nat.lt_of_lt_of_le hb' h.size) (by omega)]
    exact h.blk b' hb' hi
  · rw [redoI_out (by have := hb'.1; omega)]
    exact h.ifr b' hb' o
  · have hne : u ≠ nt := by have := h.ntle; omega
    simp only [updT, if_neg hne]
    exact h.tau u hu
  · have hne : u ≠ nt := by omega
    simp only [updT, if_neg hne]
    exact h.tn u (by omega)

/-- What owns its memory stays, when a block of another token is written anew. -/
theorem RepL.redo {E : Ent} {objs : List AO} {toks : List Nat} {nt : Nat} {I : IH} {τ : TH} {ρ : Nat → Nat} {w : World} (h : St E objs toks nt I τ ρ w) {t b e r : Nat} (ht : t ∈ toks) (hb : τ t = some (b, e, r)) {e' : Nat} {arr : Array Value} {v : Option (Nat × Nat × Nat)}
    {cs : List DV} {vs : List Value} {ts : List Nat} (hr : RepL I τ cs vs) (ho : ownL cs ts) (hts : ∀ u ∈ ts, u ∈ toks ∧ u ≠ t) : RepL (redoI I b e' arr) (updT τ nt v) cs vs := by
  have h1 : RepL (redoI I b e' arr) τ cs vs := RepL.only hr ho fun u hu b1 e1 r1 hb1 o => redoI_out fun he => (hts u hu).2 (h.tokd u (hts u hu).1 t ht _ _ _ _ _ _ hb1 hb he)
  exact h1.mono (Ext.updT v (h.tn nt (Nat.le_refl _)))

/-! ### From states to known values, and back -/
section
variable {P : Program} {n : Nat} {Q : Exit → Act → World → Prop} {env : List (Nat × Value)} {all : Array Oper} {rest : List Oper} {y : TypeId} {p : String} {f : Array Edge} {x x2 : Operand} {w0 : World}
theorem pr_storeW (TT : Tab P) {T b off : Nat} {v : Value} {arr : Array Value} {T' : TypeId} (hx : pev env x = some (.pointer (some ⟨b, off, none⟩))) (hy : pev env x2 = some v) (hk : (TT.T T).t.known = true) (hsz : (TT.T T).size = 1)
    (hb : w0.heap[b]? = some (.cells arr T' (0, 0))) (hlt : off < arr.size) (hc1 : v.cells = #[v]) (hc2 : v.oneCell' = true)
    (h : ∀ (w1 : World) (arr' : Array Value), w1.heap[b]? = some (.cells arr' T' (0, 0)) → arr'.size = arr.size → (∀ j, arr'[j]? = if j = off then some v else arr[j]?) → FrameW [b] w0 w1 → PR P n all rest Q env (fun w => w = w1)) :
    PR P n all (⟨none, .store T x x2, y, p, f, none⟩ :: rest) Q env (fun w => w = w0) := fun a w hs => by
  have h3 := hs.eval hx
  have h4 := hs.eval hy
  obtain rfl := hs.m
  have hb0 : w.heap[b]? = some (.cells arr.toList.toArray T' (0, 0)) := by simpa using hb
  have hst := run_storeCells_at P b off T' v.cells.toList 0 arr.toList.toArray w hb0 (by rw [hc1]; simp; omega) (by rw [hc1]; intro u hu; simp at hu; subst hu; exact hc2)
  simp only [Nat.add_zero] at hst
  refine wpList_plain rfl fun K hK => wp_of_skip (w' := w.setRow b (arr.toList.take off ++ v.cells.toList ++ arr.toList.drop (off + v.cells.toList.length)).toArray) ?_ ?_
  · simp only [execOp, Instr.storeAt, h3, h4, Instr.sureAddr, storeVar, Sem.run_bind, Sem.run_pure, Result.andThen_ok, run_sizeOf_of w (TT.ok T) hk, hsz]
    rw [hc1] at hst ⊢
    simp at hst ⊢
    simp [hst]
  · generalize hw' : w.setRow b (arr.toList.take off ++ v.cells.toList ++ arr.toList.drop (off + v.cells.toList.length)).toArray = w'
    have hbk : w'.heap[b]? = some (.cells (arr.toList.take off ++ v.cells.toList ++ arr.toList.drop (off + v.cells.toList.length)).toArray T' (0, 0)) := by
      rw [← hw', setRow_heap w b arr.toList.toArray _ T' _ hb0]
    have hot : ∀ b', b' ≠ b → w'.heap[b']? = w.heap[b']? := fun b' hb' => by rw [← hw']; exact setRow_other w b b' _ hb'
    have hos : w'.os = w.os ∧ w'.tape = w.tape ∧ w'.output = w.output ∧ w'.heap.size = w.heap.size := by rw [← hw']; exact ⟨rfl, rfl, rfl, by simp⟩
    refine hK _ _ (h w' _ hbk (by rw [hc1]; simp; omega) (fun j => ?_) ⟨by rw [hos.2.2.2]; exact Nat.le_refl _, fun b' _ hn => hot b' (by simpa using hn), hos.1, hos.2.1, hos.2.2.1⟩ _ _ ⟨hs.sz, hs.df, hs.ev, rfl⟩)
    rw [hc1]
    simp only [List.getElem?_toArray]
    by_cases hj : j < off
    · rw [List.append_assoc, List.getElem?_append_left (by simp; omega), List.getElem?_take, if_pos hj, if_neg (by omega)]
      simp
    · by_cases hj2 : j = off
      · subst hj2
        rw [List.append_assoc, List.getElem?_append_right (by simp; omega), if_pos rfl]
        have hz : j - (List.take j arr.toList).length = 0 := by simp; omega
        rw [hz]
        simp
      · rw [List.getElem?_append_right (by simp; omega), List.getElem?_drop, if_neg hj2]
        have : off + (#[v].toList).length + (j - (List.take off arr.toList ++ #[v].toList).length) = j := by simp; omega
        rw [this]
        simp
end
theorem flat_set {sz : Nat} : ∀ {xs : List (List DV)} {i j : Nat} {el : List DV} {c : DV}, (∀ x ∈ xs, x.length = sz) → xs[i]? = some el → j < sz → (xs.set i (el.set j c)).flatten = xs.flatten.set (i * sz + j) c
  | [], i, j, el, c, _, h, _ => by simp at h
  | x :: xs, 0, j, el, c, hs, h, hj => by
    have hx := hs x (by simp)
    simp only [List.getElem?_cons_zero, Option.some.injEq] at h
    subst h
    simp only [List.set_cons_zero, List.flatten_cons, Nat.zero_mul, Nat.zero_add]
    rw [List.set_append_left _ _ (by omega)]
  | x :: xs, i + 1, j, el, c, hs, h, hj => by
    have hx := hs x (by simp)
    have ih := flat_set (xs := xs) (c := c) (fun y hy => hs y (by simp [hy])) (by simpa using h) hj
    simp only [List.set_cons_succ, List.flatten_cons, ih]
    rw [List.set_append_right _ _ (by rw [hx, Nat.succ_mul]; omega)]
    congr 2
    rw [hx, Nat.succ_mul]; omega
theorem RepL.set {I : IH} {τ : TH} {cs : List DV} {vs : List Value} {k : Nat} {c : DV} {v : Value} (h : RepL I τ cs vs) (hc : RepD I τ c v) : RepL I τ (cs.set k c) (vs.set k v) := by
  refine ⟨by simpa using h.1, fun i c' v' hc' hv' => ?_⟩
  rw [List.getElem?_set] at hc' hv'
  by_cases e : k = i
  · subst e
    by_cases hl : k < cs.length
    · have hl2 : k < vs.length := by rw [← h.1]; exact hl
      simp [hl] at hc'
      simp [hl2] at hv'
      subst hc'; subst hv'; exact hc
    · simp [hl] at hc'
  · simp only [if_neg e] at hc' hv'
    exact h.2 i c' v' hc' hv'
/-- A slice that its token's bearer owns: its block. -/
theorem slTok {E : Ent} {objs : List AO} {toks : List Nat} {nt : Nat} {I : IH} {τ : TH} {ρ : Nat → Nat} {w : World} (h : St E objs toks nt I τ ρ w) {sz t : Nat} {xs : List (List DV)} {v : Value} (hr : RepD I τ (.sl sz xs (.tok t)) v) (ht : t ∈ toks) (hx : 0 < xs.length) :
    ∃ b cap arr T vs, v = .slice (some ⟨b, 0, none⟩) xs.length cap ∧ τ t = some (b, xs.length * sz, cap * sz) ∧ w.heap[b]? = some (.cells arr T (0, 0)) ∧ arr.size = cap * sz ∧ xs.length ≤ cap ∧ cap ≤ 9223372036854775807 ∧ (∀ x ∈ xs, x.length = sz) ∧ vs.length = xs.length * sz ∧ RepL I τ xs.flatten vs ∧ (∀ (j : Nat) u, vs[j]? = some u → arr[j]? = some u) := by
  have hr0 := hr
  cases hr with
  | sl _ _ _ adr cap vals hsz hcap hmax hnil hadr hI hrep hown =>
  rcases hown with h0 | ⟨b, hb, rfl⟩
  · omega
  obtain ⟨_, vs, hvl, hvI, hvr⟩ := cells_flat hr0
  obtain ⟨_, gt⟩ := h.tok t ht
  obtain ⟨gb, ⟨cur, T, g2, g3⟩, g4, g5⟩ := gt _ _ _ hb
  refine ⟨b, cap, cur, T, vs, rfl, hb, g2, g3, hcap, hmax, hsz, hvl, hvr, fun j u hu => ?_⟩
  have e := h.iok _ _ _ (hvI j u hu)
  simp only [World.cell?, g2, Nat.zero_add] at e
  simpa using e
end Go.AL

namespace Go.AL
open Go
set_option linter.unusedSectionVars false
variable [Inhabited Glob] [Inhabited NoLend]
set_option linter.unusedSimpArgs false
set_option linter.unusedVariables false
/-! ### Slices inside a slice that owns its memory -/
theorem getP_map {g : Nat → Value} : ∀ {L : List Nat} {t : Nat}, t ∈ L → getP (L.map fun t => (t, g t)) t = some (g t)
  | [], t, h => by simp at h
  | u :: L, t, h => by
    simp only [List.map_cons, getP]
    split
    · rename_i e; rw [e]
    · rename_i e
      rcases List.mem_cons.1 h with h | h
      · exact absurd h e
      · exact getP_map h
theorem getP_mapI {g : Nat → Value} : ∀ {L : List Nat} {t : Nat} {v : Value}, getP (L.map fun t => (t, g t)) t = some v → g t = v
  | [], t, v, h => by cases h
  | u :: L, t, v, h => by
    simp only [List.map_cons, getP] at h
    split at h
    · rename_i e; subst e; exact Option.some.inj h
    · exact getP_mapI h
theorem ownL_app {a b : List DV} {t u : List Nat} (h : ownL a t) (h' : ownL b u) (hd : Disj t u) : ownL (a ++ b) (t ++ u) := by
  induction a generalizing t with
  | nil => simp only [ownL] at h; subst h; exact h'
  | cons c a ih =>
    simp only [ownL] at h
    obtain ⟨t1, t2, rfl, d1, h1, h2⟩ := h
    simp only [List.cons_append, ownL]
    exact ⟨t1, t2 ++ u, by simp, app_disj' d1 (disj_app hd).1, h1, ih h2 (disj_app hd).2⟩
theorem ownLL_flatL : ∀ {xs : List (List DV)} {ts : List Nat}, ownLL xs ts → ownL xs.flatten ts
  | [], ts, h => by simp only [ownLL] at h; simp only [List.flatten_nil, ownL]; exact h
  | x :: xs, ts, h => by
    simp only [ownLL] at h
    obtain ⟨t1, t2, rfl, d1, h1, h2⟩ := h
    rw [List.flatten_cons]
    exact ownL_app h1 (ownLL_flatL h2) d1
def scA : AV → Bool
  | .d c => isSc c
  | _ => false
theorem scA_rep {I I' : IH} {τ τ' : TH} {ρ ρ' : Nat → Nat} {n n' : Nat} {v : AV} {x : Value} (h : RepA I τ ρ n v x) (hs : scA v = true) : RepA I' τ' ρ' n' v x := by
  cases h with
  | d c v hr =>
    cases hr with
    | int k m => exact .d _ _ (.int k m)
    | bool b => exact .d _ _ (.bool b)
    | str s h => exact .d _ _ (.str s h)
    | _ => simp [scA, isSc] at hs
  | _ => simp [scA] at hs
theorem pick_rep {I I' : IH} {τ τ' : TH} {ρ ρ' : Nat → Nat} {n n' : Nat} {env : List (Nat × AV)} {f g : Nat → Value} (hA : ∀ t, RepA I τ ρ n (getE env t) (f t)) : ∀ (L : List Nat) {kept : List (Nat × AV)}, pickE env L = kept → (kept.all fun p => scA p.2) = true → (∀ t ∈ L, g t = f t) → ∀ t, RepA I' τ' ρ' n' (getE kept t) (g t)
  | [], _, rfl, _, _, t => .unk _
  | u :: L, _, rfl, hs, hg, t => by
    simp only [pickE, List.all_cons, Bool.and_eq_true] at hs
    simp only [pickE, getE]
    split
    · rename_i e
      subst e
      rw [hg t (by simp)]
      exact scA_rep (hA t) hs.1
    · exact pick_rep hA L rfl hs.2 (fun t ht => hg t (by simp [ht])) t

section
variable {P : Program} {E : Ent} {all : Array Oper} {Q : Exit → AS → Prop} {s : AS} {rest : List Oper}
end
end Go.AL

namespace Go.AL
open Go
set_option linter.unusedSectionVars false
variable [Inhabited Glob] [Inhabited NoLend]
set_option linter.unusedSimpArgs false
set_option linter.unusedVariables false
/-! ### Is a slice nil? -/
section
variable {P : Program} {E : Ent} {all : Array Oper} {Q : Exit → AS → Prop} {s : AS} {rest : List Oper} {dst : Option Nat} {ty : TypeId} {pos : String} {after : Array Edge}
end
end Go.AL

namespace Go.AL
open Go
set_option linter.unusedSectionVars false
variable [Inhabited Glob] [Inhabited NoLend]
set_option linter.unusedSimpArgs false
set_option linter.unusedVariables false
/-! ### A drawn region whose last operation waits for all others; facts of its temporaries -/
section
variable {P : Program} {Q : Exit → Act → World → Prop}
def exitN (X : Act → World → Prop) (Q : Exit → Act → World → Prop) : Exit → Act → World → Prop
  | .normal, a, w => X a w
  | e, a, w => Q e a w
theorem wp_exit {o : Oper} {a : Act} {w : World} {X K K' : Act → World → Prop} (h : ∀ a w, K a w → K' a w) (hh : o.wp P a w K (exitN X Q)) : o.wp P a w K' Q := by
  unfold Oper.wp at *
  generalize (execOp a.eval o).run P w = r at *
  cases r with
  | ok n w' =>
    cases n <;> simp only [Oper.upon] at hh ⊢ <;>
      first
        | exact h _ _ hh
        | exact Calls.mono hh (fun e w'' he => by cases e <;> first | exact h _ _ he | exact he)
        | exact Rows.mono hh (fun _ _ he => h _ _ he)
  | halt x w' => cases x <;> simp only [Oper.upon] at hh ⊢ <;> exact hh
theorem wp_put {o : Oper} {a : Act} {w : World} {K : Act → World → Prop} (hh : o.wp P a w K Q) : o.wp P a w (fun a' w' => K a' w' ∧ ∃ v, a'.tmps = (a.put o.dst v).tmps) Q := by
  unfold Oper.wp at *
  generalize (execOp a.eval o).run P w = r at *
  cases r with
  | ok n w' =>
    cases n <;> simp only [Oper.upon] at hh ⊢ <;>
      first
        | exact ⟨hh, _, rfl⟩
        | (refine ⟨hh, undef, ?_⟩; cases o.dst <;> rfl)
        | exact Calls.mono hh (fun e w'' he => by cases e <;> first | exact ⟨he, _, rfl⟩ | exact he)
        | exact Rows.mono hh (fun _ _ he => ⟨he, _, rfl⟩)
  | halt x w' => cases x <;> simp only [Oper.upon] at hh ⊢ <;> exact hh

variable {all : Array Oper} {st : Oper}
theorem push_get {i : Nat} {o : Oper} (h : (all.push st)[i]? = some o) : i < all.size ∧ all[i]? = some o ∨ i = all.size ∧ o = st := by
  rw [Array.getElem?_push] at h
  split at h
  · rename_i e; subst e; exact .inr ⟨rfl, by simpa using h.symm⟩
  · exact .inl ⟨(Array.getElem?_eq_some_iff.1 h).1, h⟩
theorem pushB_lt {listed : Array Bool} {i : Nat} (b : Bool) (h : i < listed.size) : (listed.push false).getD i b = listed.getD i b := by
  simp only [Array.getD_eq_getD_getElem?, Array.getElem?_push]
  rw [if_neg (by omega)]
theorem pushB_at {listed : Array Bool} (b : Bool) : (listed.push false).getD listed.size b = false := by
  simp [Array.getD_eq_getD_getElem?]
theorem pushB_ge {listed : Array Bool} {i : Nat} (h : (listed.push false).getD i false = true) : i < listed.size ∧ listed.getD i false = true := by
  simp only [Array.getD_eq_getD_getElem?, Array.getElem?_push] at h
  split at h
  · simp at h
  · cases hh : listed[i]? with
    | none => rw [hh] at h; simp at h
    | some b => exact ⟨(Array.getElem?_eq_some_iff.1 hh).1, by simpa [Array.getD_eq_getD_getElem?] using h⟩
/-- Edges lead back. -/
def backB (all : Array Oper) : Prop := ∀ (i : Nat) (o : Oper), all[i]? = some o → ∀ e ∈ o.after, Region.binds .any e = true → e.on < i
theorem ready_all {listed : Array Bool} (hb : backB all) (hs : listed.size = all.size) (h : Region.ready .any all listed = []) : ∀ i, i < all.size → listed.getD i false = true := by
  intro i
  induction i using Nat.strongRecOn with
  | ind i ih =>
    intro hi
    cases hl : listed.getD i false with
    | true => rfl
    | false =>
      exfalso
      have hm : i ∈ Region.ready .any all listed := by
        rw [mem_ready]
        refine ⟨?_, all[i], by simp [hi], fun e he hbe => ?_⟩
        · have : i < listed.size := by omega
          simpa [Array.getD_eq_getD_getElem?, this] using hl
        · have := hb i all[i] (by simp [hi]) e he hbe
          exact ih _ this (by omega)
      rw [h] at hm
      cases hm
theorem ready_none {listed : Array Bool} (h : ∀ i, i < all.size → listed.getD i true = true) : Region.ready .any all listed = [] := by
  rw [List.eq_nil_iff_forall_not_mem]
  intro i hi
  obtain ⟨h1, o, ho, _⟩ := mem_ready.1 hi
  rw [h i (Array.getElem?_eq_some_iff.1 ho).1] at h1
  cases h1
theorem getD_tf {listed : Array Bool} {i : Nat} (h : listed.getD i false = true) : listed.getD i true = true := by
  simp only [Array.getD_eq_getD_getElem?] at h ⊢
  cases hh : listed[i]? with
  | none => rfl
  | some b => rw [hh] at h; simpa using h
theorem wpAny_done {fuel : Nat} {listed : Array Bool} {a : Act} {w : World} (hr : Region.ready .any all listed = []) (hq : Q .normal a w) : wpAny P .any all Q fuel listed a w := by
  cases fuel with
  | zero => exact ⟨hr, hq⟩
  | succ n => exact ⟨fun _ => hq, fun i hi => by rw [hr] at hi; cases hi⟩
theorem wpAny_push (hg : ∀ (i : Nat) (o : Oper) (j : Nat) (want : Bool), all[i]? = some o → o.guard = some (j, want) → j < all.size) (hst : st.guard = none) (hb : backB (all.push st)) (hdep : ∀ i, i < all.size → Dep (all.push st) all.size i) :
    ∀ (fuel : Nat) (listed : Array Bool) (a : Act) (w : World), listed.size = all.size → Closed (all.push st) (listed.push false) →
      wpAny P .any all (exitN (fun a w => wpList P (all.push st) Q [st] a w) Q) fuel listed a w → wpAny P .any (all.push st) Q (fuel + 1) (listed.push false) a w := by
  have key : ∀ (fuel : Nat) (listed : Array Bool) (a : Act) (w : World), listed.size = all.size → Closed (all.push st) (listed.push false) →
      (Region.ready .any all listed = [] → wpList P (all.push st) Q [st] a w) → (∀ i ∈ Region.ready .any all listed, wpOp P (all.push st) Q i (wpAny P .any (all.push st) Q fuel ((listed.push false).setIfInBounds i true)) a w) →
      wpAny P .any (all.push st) Q (fuel + 1) (listed.push false) a w := by
    intro fuel listed a w hs hcl h0 hi
    refine ⟨fun hr => ?_, fun i hm => ?_⟩
    · have := ready_all hb (by simp [hs]) hr all.size (by simp)
      rw [← hs, pushB_at] at this
      cases this
    · obtain ⟨h1, o, ho, he⟩ := mem_ready.1 hm
      rcases push_get ho with ⟨hlt, ho'⟩ | ⟨rfl, rfl⟩
      · refine hi i (mem_ready.2 ⟨by rw [← h1]; exact (pushB_lt true (by omega)).symm, o, ho', fun e hee hbe => (pushB_ge (he e hee hbe)).2⟩)
      · have hall : ∀ i, i < all.size → listed.getD i false = true := fun i hil => by
          have := (hdep i hil).listed hcl (fun o2 ho2 e hee hbe => by rw [ho] at ho2; cases ho2; exact he e hee hbe)
          exact (pushB_ge this).2
        have hw := h0 (ready_none fun i hil => getD_tf (hall i hil))
        unfold wpOp
        rw [ho]
        unfold wpList at hw
        have hwant : Region.wanted o (yielded (all.push o) a.tmps) = true := by simp [Region.wanted, hst]
        rw [if_pos hwant] at hw
        dsimp only
        rw [if_pos hwant]
        refine hw.imp (Oper.wp_mono fun a' w' hq => wpAny_done (ready_none fun i hil => ?_) hq) id
        have hil' : i < listed.size + 1 := by simp at hil; omega
        rcases Nat.lt_or_ge i all.size with h | h
        · have : (listed.push false).getD i false = true := by rw [pushB_lt _ (by omega)]; exact hall i h
          exact getD_tf (getD_set_true this)
        · have he : i = all.size := by omega
          subst he
          simp [Array.getD_eq_getD_getElem?, Array.getElem?_setIfInBounds, hs]
  intro fuel
  induction fuel with
  | zero =>
    intro listed a w hs hcl h
    exact key 0 listed a w hs hcl (fun _ => h.2) fun i hi => by rw [h.1] at hi; cases hi
  | succ fuel ih =>
    intro listed a w hs hcl h
    refine key (fuel + 1) listed a w hs hcl (fun hr => h.1 hr) fun i hi => ?_
    have hw := h.2 i hi
    obtain ⟨h1, o, ho, he⟩ := mem_ready.1 hi
    have hil := (Array.getElem?_eq_some_iff.1 ho).1
    have hset : (listed.push false).setIfInBounds i true = (listed.setIfInBounds i true).push false := by
      refine Array.ext_getElem? fun j => ?_
      simp only [Array.getElem?_setIfInBounds, Array.getElem?_push, Array.size_push, Array.size_setIfInBounds]
      by_cases hji : i = j
      · subst hji
        have h9 : i ≠ listed.size := by omega
        have h8 : i < listed.size := by omega
        have h7 : i < listed.size + 1 := by omega
        simp [h9, h8, h7]
      · simp [hji]
    have hcl' : Closed (all.push st) ((listed.push false).setIfInBounds i true) := by
      refine hcl.set ?_
      rw [mem_ready]
      refine ⟨by rw [pushB_lt _ (by omega)]; exact h1, o, by rw [Array.getElem?_push, if_neg (by omega)]; exact ho, fun e hee hbe => ?_⟩
      have := he e hee hbe
      have hlt : e.on < listed.size := by
        rcases Nat.lt_or_ge e.on listed.size with h | h
        · exact h
        · simp [Array.getD_eq_getD_getElem?, Array.getElem?_eq_none h] at this
      rw [pushB_lt _ hlt]; exact this
    have ho' : (all.push st)[i]? = some o := by rw [Array.getElem?_push, if_neg (by omega)]; exact ho
    unfold wpOp at hw ⊢
    rw [ho] at hw
    rw [ho']
    dsimp only at hw ⊢
    have hy : Region.wanted o (yielded (all.push st) a.tmps) = Region.wanted o (yielded all a.tmps) := by
      cases hgd : o.guard with
      | none => simp [Region.wanted, hgd]
      | some jw =>
        obtain ⟨j, want⟩ := jw
        have hj := hg i o j want ho hgd
        have : yielded (all.push st) a.tmps j = yielded all a.tmps j := by
          unfold yielded
          rw [Array.getElem?_push, if_neg (by omega)]
        simp [Region.wanted, hgd, this]
    rw [hy]
    have hK : ∀ a' w', wpAny P .any all (exitN (fun a w => wpList P (all.push st) Q [st] a w) Q) fuel (listed.setIfInBounds i true) a' w' → wpAny P .any (all.push st) Q (fuel + 1) ((listed.push false).setIfInBounds i true) a' w' := fun a' w' h' => by
      rw [hset]
      exact ih _ a' w' (by simpa using hs) (by rw [← hset]; exact hcl') h'
    split
    · rename_i hwt
      rw [if_pos hwt] at hw
      rcases hw with hw | ⟨hw1, hw2⟩
      · exact .inl (wp_exit hK hw)
      · exact .inr ⟨hw1, hw2⟩
    · rename_i hwt
      rw [if_neg hwt] at hw
      exact hK _ _ hw
end
section
variable {P : Program} {E : Ent} {TT : Tab P} {T A : List Nat} {K : AS → Prop} {all : Array Oper}
def FactsAt (F : List (Nat × Nat × Value)) (listed : Array Bool) (a : Act) : Prop := ∀ f ∈ F, listed.getD f.1 false = true → a.tmps.getD f.2.1 undef = f.2.2
def BaseAt (B : List (Nat × Value)) (a : Act) : Prop := ∀ q ∈ B, a.tmps.getD q.1 undef = q.2
theorem put_tmps {a a' : Act} {o : Option Nat} {v : Value} {d : Nat} (h : a'.tmps = (a.put o v).tmps) (hd : o ≠ some d) : a'.tmps.getD d undef = a.tmps.getD d undef := by
  rw [h]
  cases o with
  | none => rfl
  | some x =>
    have hx : x ≠ d := fun e => hd (by rw [e])
    simp only [Act.put, Array.getD_eq_getD_getElem?, Array.getElem?_setIfInBounds]
    rw [if_neg hx]
theorem aAny_soundJ {Q : Exit → Act → World → Prop} {F : List (Nat × Nat × Value)} {B : List (Nat × Value)} (hb : backB all)
    (hq : ∀ s' a' w', K s' → Sim E s' a' w' → BaseAt B a' → (∀ f ∈ F, a'.tmps.getD f.2.1 undef = f.2.2) → Q .normal a' w') (hd : (all.toList.all fun o => o.dst.all fun d => decide (d < E.n)) = true)
    (hB : ∀ q ∈ B, ∀ (j : Nat) (o : Oper), all[j]? = some o → o.dst ≠ some q.1)
    (hF : ∀ f ∈ F, ∃ o, all[f.1]? = some o ∧ o.guard = none ∧ o.dst = some f.2.1 ∧ ∀ a w, BaseAt B a → (∀ g ∈ F, (∃ e ∈ o.after, Region.binds .any e = true ∧ e.on = g.1) → a.tmps.getD g.2.1 undef = g.2.2) → (execOp a.eval o).run P w = .ok (.value f.2.2) w)
    (hU : ∀ f ∈ F, ∀ (j : Nat) (o : Oper), all[j]? = some o → j ≠ f.1 → o.dst ≠ some f.2.1) :
    ∀ (fuel : Nat) (listed : Array Bool) (s : AS) (a : Act) (w : World), listed.size = all.size → FactsAt F listed a → BaseAt B a → Sim E s a w → aAny TT all T A K fuel listed s → wpAny P .any all Q fuel listed a w := by
  have fin : ∀ (listed : Array Bool) (s : AS) (a : Act) (w : World), listed.size = all.size → FactsAt F listed a → BaseAt B a → Sim E s a w → Region.ready .any all listed = [] → K s → Q .normal a w := fun listed s a w hs hf hba hsim hr hk =>
    hq s a w hk hsim hba fun f hfF => by
      obtain ⟨o, ho, _⟩ := hF f hfF
      exact hf f hfF (ready_all hb hs hr f.1 (Array.getElem?_eq_some_iff.1 ho).1)
  intro fuel
  induction fuel with
  | zero => exact fun listed s a w hs hf hba hsim h => ⟨h.1, fin listed s a w hs hf hba hsim h.1 h.2⟩
  | succ fuel ih =>
    intro listed s a w hs hf hba hsim h
    refine ⟨fun h0 => fin listed s a w hs hf hba hsim h0 (h.1 h0), fun i hi => ?_⟩
    have hk := h.2 i hi
    obtain ⟨_, o, ho, he⟩ := mem_ready.1 hi
    unfold wpOp
    rw [ho] at hk ⊢
    dsimp only at hk ⊢
    have hdo : (o.dst.all fun d => decide (d < E.n)) = true := List.all_eq_true.1 hd o (by rw [Array.mem_toList_iff]; exact Array.mem_of_getElem? ho)
    have h0 := aOp_sound (Q := Q) (N := fun a' w' => ∃ s', aAny TT all T A K fuel (listed.setIfInBounds i true) s' ∧ Sim E s' a' w') hdo hsim hk fun s' a' w' h1 h2 => ⟨s', h1, h2⟩
    have il := (Array.getElem?_eq_some_iff.1 ho).1
    have hset : ∀ j, j ≠ i → (listed.setIfInBounds i true).getD j false = true → listed.getD j false = true := fun j hj h => by
      rwa [getD_set_ne false (fun e => hj e.symm)] at h
    have hnext : ∀ a' w', (∃ v, a'.tmps = (a.put o.dst v).tmps ∧ ∀ f ∈ F, f.1 = i → v = f.2.2) → (∃ s', aAny TT all T A K fuel (listed.setIfInBounds i true) s' ∧ Sim E s' a' w') → wpAny P .any all Q fuel (listed.setIfInBounds i true) a' w' := by
      rintro a' w' ⟨v, hv, hvf⟩ ⟨s', h1, h2⟩
      refine ih _ s' a' w' (by simpa using hs) (fun f hfF hl => ?_) (fun q hqB => ?_) h2 h1
      · by_cases hfi : f.1 = i
        · obtain ⟨o2, ho2, _, hd2, _⟩ := hF f hfF
          rw [hfi, ho] at ho2
          cases ho2
          rw [← hvf f hfF hfi, hv, hd2]
          rw [hd2] at hdo
          simp only [Option.all_some, decide_eq_true_eq] at hdo
          exact put_at hsim.sz hdo
        · rw [put_tmps hv (hU f hfF i o ho (fun e => hfi e.symm))]
          exact hf f hfF (hset f.1 hfi hl)
      · rw [put_tmps hv (hB q hqB i o ho)]
        exact hba q hqB
    by_cases hfx : ∃ f ∈ F, f.1 = i
    · obtain ⟨f, hfF, hfi⟩ := hfx
      have hrun : ∀ g ∈ F, g.1 = i → o.guard = none ∧ (execOp a.eval o).run P w = .ok (.value g.2.2) w := fun g hgF hgi => by
        obtain ⟨o2, ho2, hg2, _, hr2⟩ := hF g hgF
        rw [hgi, ho] at ho2
        cases ho2
        refine ⟨hg2, hr2 a w hba fun g' hg' ⟨e, hee, hbe, heo⟩ => hf g' hg' ?_⟩
        rw [← heo]
        exact he e hee hbe
      obtain ⟨hgd, hr⟩ := hrun f hfF hfi
      have hwant : Region.wanted o (yielded all a.tmps) = true := by simp [Region.wanted, hgd]
      rw [if_pos hwant] at h0 ⊢
      refine h0.imp (fun hw => ?_) id
      unfold Oper.wp at hw ⊢
      rw [hr] at hw ⊢
      exact hnext _ _ ⟨f.2.2, rfl, fun g hgF hgi => by
        have := (hrun g hgF hgi).2
        rw [hr] at this
        simpa using this⟩ hw
    · have hno : ∀ v : Value, ∀ f ∈ F, f.1 = i → v = f.2.2 := fun v f hfF hfi => absurd ⟨f, hfF, hfi⟩ hfx
      split
      · rename_i hwant
        rw [if_pos hwant] at h0
        refine h0.imp (fun hw => Oper.wp_mono ?_ (wp_put hw)) id
        rintro a' w' ⟨h1, v, hv⟩
        exact hnext a' w' ⟨v, hv, hno v⟩ h1
      · rename_i hwant
        rw [if_neg hwant] at h0
        exact hnext _ _ ⟨undef, rfl, hno _⟩ h0
end
end Go.AL

namespace Go.AL
open Go
set_option linter.unusedSectionVars false
variable [Inhabited Glob] [Inhabited NoLend]
set_option linter.unusedSimpArgs false
set_option linter.unusedVariables false
/-! ### A store into a field of an element of an owned slice, at the end of a drawn region -/
section
variable {P : Program} {E : Ent} {all : Array Oper} {Q : Exit → AS → Prop} {s : AS}
theorem store1 (TT : Tab P) {V d2 rz r t i j sz : Nat} {ty3 : TypeId} {q3 : String} {f3 : Array Edge} {xs : List (List DV)} {el : List DV} {c : DV} {us : List Nat} (L : List Nat) {kept : List (Nat × AV)} {a : Act} {w : World} (hs : Sim E s a w)
    (hr : getE s.env r = .d (.sl sz xs (.tok t))) (hz : getE s.env rz = .d c) (hel : xs[i]? = some el) (hj : j < sz) (hkV : (TT.T V).t.known = true) (hsV : (TT.T V).size = 1)
    (ho : ownLL (xs.set i (el.set j c)) us) (hus : ∀ u ∈ us, u ∈ s.toks ∧ u ≠ t) (ht : t ∈ s.toks) (hk : E.k = 0)
    (hkept : pickE s.env L = kept) (hks : (kept.all fun p => scA p.2) = true)
    (hptr : ∀ b n cap, a.tmps.getD r undef = .slice (some ⟨b, 0, none⟩) n cap → a.tmps.getD d2 undef = .pointer (some ⟨b, i * sz + j, none⟩))
    (h : Q .normal ⟨(r, .d (.sl sz (xs.set i (el.set j c)) (.tok s.nt))) :: kept, [], s.nt :: us, s.nt + 1⟩) :
    wpList P all (fun e a' w' => ∃ s', Q e s' ∧ Sim E s' a' w') [⟨none, .store V (.tmp d2) (.tmp rz), ty3, q3, f3, none⟩] a w := by
  obtain ⟨⟨I, τ, ρ, h1, h2⟩, h3, h4⟩ := id hs
  have vr := h2 r
  have vz := h2 rz
  rw [hr] at vr
  rw [hz] at vz
  have hil : i < xs.length := (List.getElem?_eq_some_iff.1 hel).1
  generalize hvr : a.tmps.getD r undef = v' at vr
  generalize hvz : a.tmps.getD rz undef = vzv at vz
  cases vr with
  | d _ _ rr' =>
  cases vz with
  | d _ _ rz' =>
  obtain ⟨b, cap, arr, T', vs, rfl, hb, hw, hsz, hc1, hc2, hxs, hvl, hvr', hcell⟩ := slTok h1 rr' ht (by omega)
  have hp := hptr b _ _ hvr
  have hoff : i * sz + j < xs.length * sz := by
    have : (i + 1) * sz ≤ xs.length * sz := Nat.mul_le_mul_right _ hil
    rw [Nat.succ_mul] at this
    omega
  have harr : i * sz + j < arr.size := by
    have : xs.length * sz ≤ cap * sz := Nat.mul_le_mul_right _ hc1
    omega
  have hmem : ∀ u ∈ [d2, rz, r] ++ L, getP (([d2, rz, r] ++ L).map fun t => (t, a.tmps.getD t undef)) u = some (a.tmps.getD u undef) := fun u hu => getP_map hu
  have hps : PS E.n (([d2, rz, r] ++ L).map fun t => (t, a.tmps.getD t undef)) (fun w' => w' = w) a w := ⟨h3, h4, fun t v ht => getP_mapI ht, rfl⟩
  generalize hen : (([d2, rz, r] ++ L).map fun t => (t, a.tmps.getD t undef)) = env at hmem hps
  refine pr_storeW TT (x := .tmp d2) (x2 := .tmp rz) (b := b) (off := i * sz + j) (v := vzv) (arr := arr) (T' := T') (env := env) ?_ ?_ hkV hsV hw harr rz'.cells rz'.one ?_ a w hps
  · show getP env d2 = _
    rw [hmem d2 (by simp), hp]
  · show getP env rz = _
    rw [hmem rz (by simp), hvz]
  intro w1 arr' g1 g2 g3 g4 a' w' hps'
  obtain rfl := hps'.m
  obtain ⟨k1, k2, k3⟩ := h1.redo hk ht hb (e' := xs.length * sz) g4 g1 (g2.trans hsz)
  have hlen : (xs.set i (el.set j c)).length = xs.length := by simp
  have hnew : RepL I τ (xs.set i (el.set j c)).flatten (vs.set (i * sz + j) vzv) := by
    rw [flat_set hxs hel hj]
    exact hvr'.set rz'
  have hnew2 := RepL.redo h1 ht hb (e' := xs.length * sz) (arr := arr') (v := some (b, xs.length * sz, cap * sz)) hnew (ownLL_flatL ho) hus
  have hrep := RepD_of_flat (own := .tok s.nt) (adr := ⟨b, 0, none⟩) (cap := cap) (sz := sz) (zs := xs.set i (el.set j c)) (I := redoI I b (xs.length * sz) arr') (τ := updT τ s.nt (some (b, xs.length * sz, cap * sz))) (vs := vs.set (i * sz + j) vzv) (fun q hq => ?_) rfl (by rw [hlen]; exact hc1) hc2 (fun k u hu => ?_) hnew2 (.inr ⟨b, by rw [updT_new, hlen], rfl⟩)
  · rw [hlen] at hrep
    refine ⟨_, h, ⟨⟨_, _, ρ, k1.sub _ fun u hu => ?_, fun u => ?_⟩, hps'.sz, hps'.df⟩⟩
    · rcases List.mem_cons.1 hu with rfl | hu
      · simp
      · have := hus u hu
        simp [this.1, this.2]
    · have hkeep : ∀ u ∈ L, a'.tmps.getD u undef = a.tmps.getD u undef := fun u hu => hps'.ev u _ (hmem u (by simp [hu]))
      have hrr : a'.tmps.getD r undef = .slice (some ⟨b, 0, none⟩) xs.length cap := by
        rw [← hvr]
        exact hps'.ev r _ (hmem r (by simp))
      simp only [getE]
      split
      · rename_i eu
        subst eu
        rw [hrr]
        exact .d _ _ hrep
      · exact pick_rep h2 L hkept hks hkeep u
  · rcases List.mem_or_eq_of_mem_set hq with hq | rfl
    · exact hxs q hq
    · rw [List.length_set]; exact hxs el (List.mem_of_getElem? hel)
  · have hkl := (List.getElem?_eq_some_iff.1 hu).1
    rw [List.length_set, hvl] at hkl
    show redoI I b (xs.length * sz) arr' b (0 + k) = some u
    rw [Nat.zero_add, redoI_in hkl, g3 k]
    by_cases hkk : k = i * sz + j
    · subst hkk; rw [if_pos rfl]; rw [List.getElem?_set_self (by omega)] at hu; exact hu
    · rw [if_neg hkk]; rw [List.getElem?_set_ne (fun e => hkk e.symm)] at hu; exact hcell k u hu
end
/-! ### The checks on such a region -/
def dstIs (d : Nat) : Option Oper → Bool
  | some o => match o.dst with | some x => Nat.beq x d | none => false
  | none => false
def uniqB (pre : List Oper) (k d : Nat) : Bool := (List.range pre.length).all fun j => Nat.beq j k || !dstIs d pre[j]?
def freeB (pre : List Oper) (d : Nat) : Bool := (List.range pre.length).all fun j => !dstIs d pre[j]?
def grdB (pre : List Oper) : Bool := pre.all fun o => match o.guard with | none => true | some (j, _) => Nat.blt j pre.length
def depA (all : Array Oper) : Nat → Nat → Nat → Bool
  | 0, _, _ => false
  | fuel + 1, j, i => match all[j]? with
    | none => false
    | some o => o.after.toList.any fun e => Region.binds .any e && (Nat.beq e.on i || depA all fuel e.on i)
theorem depA_dep {all : Array Oper} {i : Nat} : ∀ (fuel j : Nat), depA all fuel j i = true → Dep all j i
  | 0, _, h => by simp [depA] at h
  | fuel + 1, j, h => by
    unfold depA at h
    split at h
    · cases h
    · rename_i o ho
      rw [List.any_eq_true] at h
      obtain ⟨e, he, hx⟩ := h
      simp only [Bool.and_eq_true, Bool.or_eq_true] at hx
      obtain ⟨hb, hx⟩ := hx
      rcases hx with hx | hx
      · exact .one ho (by simpa using he) hb (Nat.eq_of_beq_eq_true hx)
      · exact .more ho (by simpa using he) hb (depA_dep fuel _ hx)
def edgeB (f : Array Edge) (k : Nat) : Bool := f.toList.any fun e => Region.binds .any e && Nat.beq e.on k
def lastB (pre : List Oper) (st : Oper) : Bool := grdB pre && (st.after.toList.all fun e => !Region.binds .any e || Nat.blt e.on pre.length) && (List.range pre.length).all fun k => depA (pre ++ [st]).toArray 12 pre.length k
theorem dstIs_ne {pre : List Oper} {d j : Nat} {o : Oper} (h : dstIs d pre[j]? = false) (ho : pre[j]? = some o) : o.dst ≠ some d := fun e => by
  rw [ho] at h
  simp [dstIs, e] at h
theorem uniqB_ne {pre : List Oper} {k d j : Nat} {o : Oper} (h : uniqB pre k d = true) (ho : pre[j]? = some o) (hj : j ≠ k) : o.dst ≠ some d := by
  have hl := (List.getElem?_eq_some_iff.1 ho).1
  have := List.all_eq_true.1 h j (by simpa using hl)
  simp only [Bool.or_eq_true, Bool.not_eq_true'] at this
  rcases this with h | h
  · exact absurd (Nat.eq_of_beq_eq_true h) hj
  · exact dstIs_ne h ho
theorem freeB_ne {pre : List Oper} {d j : Nat} {o : Oper} (h : freeB pre d = true) (ho : pre[j]? = some o) : o.dst ≠ some d := by
  have hl := (List.getElem?_eq_some_iff.1 ho).1
  have := List.all_eq_true.1 h j (by simpa using hl)
  simp only [Bool.not_eq_true'] at this
  exact dstIs_ne this ho
theorem edgeB_ex {f : Array Edge} {k : Nat} (h : edgeB f k = true) : ∃ e ∈ f, Region.binds .any e = true ∧ e.on = k := by
  obtain ⟨e, he, hx⟩ := List.any_eq_true.1 h
  simp only [Bool.and_eq_true] at hx
  exact ⟨e, by simpa using he, hx.1, Nat.eq_of_beq_eq_true hx.2⟩
theorem lexG_back {m : Bool} {all : Array Oper} : ∀ (l : List Oper) (k : Nat), lexG m all k l = true → ∀ (i : Nat) (o : Oper), l[i]? = some o → ∀ e ∈ o.after, Region.binds .any e = true → e.on < k + i
  | [], k, _, i, o, h, _, _, _ => by simp at h
  | x :: l, k, hG, i, o, h, e, he, hb => by
    simp only [lexG, Bool.and_eq_true] at hG
    cases i with
    | zero =>
      simp only [List.getElem?_cons_zero, Option.some.injEq] at h
      subst h
      have := List.all_eq_true.1 hG.1.1 e (by simpa using he)
      rw [hb] at this
      simpa using this
    | succ i =>
      have := lexG_back l (k + 1) hG.2 i o (by simpa using h) e he hb
      omega
section
variable {P : Program} {E : Ent} {Q : Exit → AS → Prop} {s : AS}
/-- What must hold ahead of the last operation. -/
structure FinS (E : Ent) (Q : Exit → AS → Prop) (sz i j t r rz : Nat) (xs : List (List DV)) (el : List DV) (L : List Nat) (s : AS) : Prop where
  ex : ∃ (c : DV) (us : List Nat) (kept : List (Nat × AV)), getE s.env r = .d (.sl sz xs (.tok t)) ∧ getE s.env rz = .d c ∧ ownLL (xs.set i (el.set j c)) us ∧ (∀ u ∈ us, u ∈ s.toks ∧ u ≠ t) ∧ t ∈ s.toks ∧ pickE s.env L = kept ∧ (kept.all fun p => scA p.2) = true ∧ Q .normal ⟨(r, .d (.sl sz (xs.set i (el.set j c)) (.tok s.nt))) :: kept, [], s.nt :: us, s.nt + 1⟩
end
end Go.AL

namespace Go.AL
open Go
set_option linter.unusedSectionVars false
variable [Inhabited Glob] [Inhabited NoLend]
set_option linter.unusedSimpArgs false
set_option linter.unusedVariables false
section
variable {P : Program} {E : Ent} {Q : Exit → AS → Prop} {s : AS}
end
end Go.AL

namespace Go.AL
open Go
set_option linter.unusedSectionVars false
variable [Inhabited Glob] [Inhabited NoLend]
set_option linter.unusedSimpArgs false
set_option linter.unusedVariables false
/-! ### A function that rewrites a list of integers in place, at a list inside an owned list -/
def encN (n : Int) : List DV := [.int .i64 n]
/-- g puts f zs where zs stood. -/
def InI (P : Program) (g : FuncId) (f : List Int → List Int) : Prop :=
  CallOK P g ∧ (∀ zs, (f zs).length = zs.length) ∧ ∀ (w : World) (b cap : Nat) (zs : List Int) (arr : Array Value) (T : TypeId), w.heap[b]? = some (.cells arr T (0, 0)) → arr.size = cap → zs.length ≤ cap → zs.length < 4611686018427387904 → (∀ (j : Nat) z, zs[j]? = some z → arr[j]? = some (.int .i64 z)) →
    Calls P g [Value.slice (some ⟨b, 0, none⟩) zs.length cap].toArray w fun e w' => e = .returned (.tuple #[]) ∧ (∃ arr', w'.heap[b]? = some (.cells arr' T (0, 0)) ∧ arr'.size = arr.size ∧ ∀ (j : Nat) z, (f zs)[j]? = some z → arr'[j]? = some (.int .i64 z)) ∧ FrameW [b] w w'
section
variable {P : Program} {E : Ent} {all : Array Oper} {Q : Exit → AS → Prop} {s : AS} {rest : List Oper}
end
end Go.AL

namespace Go.AL
open Go
set_option linter.unusedSectionVars false
variable [Inhabited Glob] [Inhabited NoLend]
set_option linter.unusedSimpArgs false
set_option linter.unusedVariables false
/-! ### slices.DeleteFunc at a list inside an owned list, and its result put back there -/
/-- gd, with the closure F over a variable that holds gv, keeps of zs what is not gv. -/
def DelI (P : Program) (gd F : FuncId) : Prop :=
  CallOK P gd ∧ ∀ (w : World) (b cap bg : Nat) (gv : Int) (zs : List Int) (arr : Array Value) (T : TypeId), w.heap[b]? = some (.cells arr T (0, 0)) → arr.size = cap → zs.length ≤ cap → cap ≤ 9223372036854775807 → bg ≠ b → w.cell? ⟨bg, 0, none⟩ = some (.int .i64 gv) → (∀ (j : Nat) z, zs[j]? = some z → arr[j]? = some (.int .i64 z)) →
    Calls P gd [Value.slice (some ⟨b, 0, none⟩) zs.length cap, Value.func (.func F) #[] #[.pointer (some ⟨bg, 0, none⟩)]].toArray w fun e w' => e = .returned (.slice (some ⟨b, 0, none⟩) (zs.filter fun z => !(z == gv)).length cap) ∧ (∃ arr', w'.heap[b]? = some (.cells arr' T (0, 0)) ∧ arr'.size = arr.size ∧ ∀ (j : Nat) z, (zs.filter fun z => !(z == gv))[j]? = some z → arr'[j]? = some (.int .i64 z)) ∧ FrameW [b] w w'
section
variable {P : Program} {E : Ent} {all : Array Oper} {Q : Exit → AS → Prop} {s : AS} {rest : List Oper}
end
end Go.AL

namespace Go.AL
open Go Go.RowKit
set_option linter.unusedSimpArgs false
set_option linter.unusedVariables false
set_option linter.unusedSectionVars false
variable [Inhabited Glob]
/-! ### A function of the library, told by a contract on worlds -/
/-- What may be handed back: new cells may be known, old ones as before. -/
def NewI (I0 I : IH) (w w' : World) : Prop := (∀ b o v, I b o = some v → w'.cell? ⟨b, o, none⟩ = some v) ∧ ∀ b, b < w.heap.size → ∀ o, I b o = I0 b o
theorem NewI.old {I0 : IH} {w w' : World} (h : ∀ b o v, I0 b o = some v → w.cell? ⟨b, o, none⟩ = some v) (hb : Below w.heap.size w w') : NewI I0 I0 w w' :=
  ⟨fun b o v hv => by
    have h1 := h b o v hv
    have h2 := World.block_lt_of_cell? w ⟨b, o, none⟩ h1
    simpa [World.cell?, hb.block b h2] using h1, fun _ _ _ => rfl⟩
theorem ac_of_calls {P : Program} {g : FuncId} {args : List AV} {R : AV → Prop} (hc : CallOK P g)
    (h : ∀ (w : World) (S : Nat → Prop) (I : IH) (τ : TH) (ρ : Nat → Nat) (vs : List Value), (default : Glob).ok w S → (∀ b o v, I b o = some v → w.cell? ⟨b, o, none⟩ = some v) → RepAs I τ ρ 0 args vs →
      Calls P g vs.toArray w fun e w' => ∃ x r I', e = .returned x ∧ R r ∧ Below w.heap.size w w' ∧ NewI I I' w w' ∧ RepA I' τ ρ 0 r x) : GivesR P g args R :=
  ⟨hc, fun E vs hk hS hA => by
    refine (h E.w0 E.gs E.I0 E.τ0 E.ρ0 vs E.gl hS.iok hA).mono fun e w' ⟨x, r, I', he, hr, hb, hI, hx⟩ => ⟨x, he, r, [], [], E.nt0, I', E.τ0, E.ρ0, ⟨hr, rfl, rfl⟩, ?_, hx⟩
    have hk0 : E.k = 0 := hk
    exact {
      iok := hI.1
      obj := fun i o h => by simp at h
      objI := fun i h => by simp at h
      inj := fun i j h => by simp at h
      tok := fun t h => by simp at h
      tokd := fun t h => by simp at h
      os := hb.os
      tape := hb.tape
      output := hb.output
      size := hb.size
      blk := fun b h _ => hb.block b h
      ifr := fun b h o => hI.2 b h.1 o
      ifl := fun b _ o v h => by rw [hI.2 b (hS.i0 _ _ _ h) o]; exact h
      rho := fun _ _ => rfl
      fresh := fun i _ h => by simp at h
      tau := fun _ _ => rfl
      len := by simp [hk0]
      ntle := Nat.le_refl _
      i0 := hS.i0
      tn := hS.tn }⟩
/-- A list of texts in memory. -/
theorem rep_texts {I : IH} {τ : TH} {ρ : Nat → Nat} {n : Nat} {l : List (List UInt8)} {o : Own} {x : Value} {w : World} (hI : ∀ b o v, I b o = some v → w.cell? ⟨b, o, none⟩ = some v) (h : RepA I τ ρ n (.d (.sl 1 (l.map fun s => [DV.str s]) o)) x) :
    ∃ a cap, x = .slice a l.length cap ∧ l.length ≤ cap ∧ cap ≤ 9223372036854775807 ∧ (∀ s ∈ l, s.length ≤ 9223372036854775807) ∧ (0 < l.length → ∃ b off, a = some ⟨b, off, none⟩ ∧ b < w.heap.size ∧ ∀ (j : Nat) s, l[j]? = some s → w.cell? ⟨b, off + j, none⟩ = some (.string ⟨s.toArray⟩)) := by
  cases h with
  | d _ _ h =>
  cases h with
  | sl _ _ _ a cap vals hsz hcap hmax hnil hadr hIc hrep hown =>
    have hrs : ∀ (j : Nat) s, l[j]? = some s → vals (j * 1 + 0) = .string ⟨s.toArray⟩ ∧ s.length ≤ 9223372036854775807 := fun j s hj => by
      have := hrep j [.str s] 0 (.str s) (by rw [List.getElem?_map, hj]; rfl) rfl
      cases hv : vals (j * 1 + 0) with
      | _ => rw [hv] at this; cases this <;> exact ⟨rfl, by assumption⟩
    rw [List.length_map] at *
    refine ⟨a, cap, rfl, hcap, hmax, fun s hs => ?_, fun h0 => ?_⟩
    · obtain ⟨j, hj⟩ := List.getElem?_of_mem hs
      exact (hrs j s hj).2
    · cases a with
      | none => have := hnil rfl; omega
      | some adr =>
        have hs := hadr (by omega) adr rfl
        obtain ⟨b, off, spot⟩ := adr
        dsimp only at hs
        subst hs
        have hc : ∀ (j : Nat) s, l[j]? = some s → w.cell? ⟨b, off + j, none⟩ = some (.string ⟨s.toArray⟩) := fun j s hj => by
          have := hI _ _ _ (hIc _ rfl j [.str s] 0 (.str s) (by rw [List.getElem?_map, hj]; rfl) rfl)
          rw [(hrs j s hj).1] at this
          simpa using this
        refine ⟨b, off, rfl, ?_, hc⟩
        obtain ⟨s, hs⟩ : ∃ s, l[0]? = some s := ⟨l[0], List.getElem?_eq_getElem h0⟩
        exact World.block_lt_of_cell? w ⟨b, off + 0, none⟩ (hc 0 s hs)
/-- New texts in a new block. -/
theorem new_texts {I : IH} {τ : TH} {ρ : Nat → Nat} {w w' : World} {l : List (List UInt8)} {b cap : Nat} (hI : ∀ b o v, I b o = some v → w.cell? ⟨b, o, none⟩ = some v) (hb : Below w.heap.size w w') (hbn : w.heap.size ≤ b) (hl : ∀ s ∈ l, s.length ≤ 9223372036854775807) (hcap : l.length ≤ cap) (hm : cap ≤ 9223372036854775807)
    (hc : ∀ (j : Nat) s, l[j]? = some s → w'.cell? ⟨b, j, none⟩ = some (.string ⟨s.toArray⟩)) :
    ∃ I', NewI I I' w w' ∧ RepA I' τ ρ 0 (.d (.sl 1 (l.map fun s => [DV.str s]) .no)) (.slice (some ⟨b, 0, none⟩) l.length cap) := by
  have hIb : ∀ b o v, I b o = some v → b < w.heap.size := fun b o v h => World.block_lt_of_cell? w ⟨b, o, none⟩ (hI b o v h)
  refine ⟨fun b' o => if b' = b then (l[o]?).map fun s => Value.string ⟨s.toArray⟩ else I b' o, ⟨fun b' o v hv => ?_, fun b' h o => if_neg (by omega)⟩, ?_⟩
  · dsimp only at hv
    split at hv
    · rename_i e
      subst e
      rw [Option.map_eq_some_iff] at hv
      obtain ⟨s, hs, rfl⟩ := hv
      exact hc o s hs
    · exact (NewI.old hI hb).1 b' o v hv
  · have hlen : (l.map fun s => [DV.str s]).length = l.length := by simp
    have := RepD.sl (I := fun b' o => if b' = b then (l[o]?).map fun s => Value.string ⟨s.toArray⟩ else I b' o) (τ := τ) 1 (l.map fun s => [DV.str s]) .no (some ⟨b, 0, none⟩) cap (fun i => ((l[i]?).map fun s => Value.string ⟨s.toArray⟩).getD undef)
      (by intro x hx; obtain ⟨s, _, rfl⟩ := List.mem_map.1 hx; rfl) (by rw [hlen]; exact hcap) hm (by simp) (by rintro _ adr ⟨⟩; rfl) ?_ ?_ trivial
    · rw [hlen] at this; exact .d _ _ this
    · rintro adr ⟨⟩ i x j c hx hcx
      rw [List.getElem?_map, Option.map_eq_some_iff] at hx
      obtain ⟨s, hs, rfl⟩ := hx
      obtain rfl : j = 0 := by have := (List.getElem?_eq_some_iff.1 hcx).1; simpa using this
      simp [hs]
    · intro i x j c hx hcx
      rw [List.getElem?_map, Option.map_eq_some_iff] at hx
      obtain ⟨s, hs, rfl⟩ := hx
      obtain rfl : j = 0 := by have := (List.getElem?_eq_some_iff.1 hcx).1; simpa using this
      simp at hcx
      subst hcx
      simp only [Nat.mul_one, Nat.add_zero, hs, Option.map_some, Option.getD_some]
      exact .str s (hl s (List.mem_of_getElem? hs))
theorem reps_one {I : IH} {τ : TH} {ρ : Nat → Nat} {n : Nat} {a : AV} {vs : List Value} (h : RepAs I τ ρ n [a] vs) : ∃ x, vs = [x] ∧ RepA I τ ρ n a x := by
  match vs, h with
  | [x], h => exact ⟨x, rfl, h.2 0 a x rfl rfl⟩
  | [], h => exact absurd h.1 (by simp)
  | _ :: _ :: _, h => exact absurd h.1 (by simp)
theorem reps_two {I : IH} {τ : TH} {ρ : Nat → Nat} {n : Nat} {a b : AV} {vs : List Value} (h : RepAs I τ ρ n [a, b] vs) : ∃ x y, vs = [x, y] ∧ RepA I τ ρ n a x ∧ RepA I τ ρ n b y := by
  match vs, h with
  | [x, y], h => exact ⟨x, y, rfl, h.2 0 a x rfl rfl, h.2 1 b y rfl rfl⟩
  | [], h => exact absurd h.1 (by simp)
  | [_], h => exact absurd h.1 (by simp)
  | _ :: _ :: _ :: _, h => exact absurd h.1 (by simp)
end Go.AL

namespace Go.AL
open Go
set_option linter.unusedSimpArgs false
set_option linter.unusedVariables false
set_option linter.unusedSectionVars false
variable [Inhabited Glob]
/-! ### A function that is lent who may append -/
def ACT (P : Program) (g : FuncId) (args : List AV) (objs : List AO) (lts : List Nat) (R : Nat → AV → List AO → List Nat → Nat → Prop) : Prop :=
  CallOK P g ∧ ∀ (E : Ent) (vs : List Value), E.k = objs.length → St E objs lts E.nt0 E.I0 E.τ0 E.ρ0 E.w0 → RepAs E.I0 E.τ0 E.ρ0 objs.length args vs →
    Calls P g vs.toArray E.w0 fun e w' => ∃ x, e = .returned x ∧ ∃ r objs' toks' nt' I' τ' ρ', R E.nt0 r objs' toks' nt' ∧ St E objs' toks' nt' I' τ' ρ' w' ∧ RepA I' τ' ρ' objs'.length r x
section
variable {P : Program} (TT : Tab P) (E : Ent) {all : List (Option Nat)} {g : FuncId} {args : List AV} {dst : Option Nat} {rest : List Oper} {s : AS} {K : AS → Prop}
end
end Go.AL

namespace Go.AL
open Go Go.RowKit Go.ChangeShapes Go.WideShapes Go.ChangeAt
set_option linter.unusedSectionVars false
variable [Inhabited Glob]
set_option linter.unusedSimpArgs false
set_option linter.unusedVariables false

/-! ### From a law's contract to its row: listed variables, the world's shape -/
theorem lifted_row {C : Checked} {os : Os} {H : Type} {enc : TypeId × Value → H} (TT : Tab C.prog) (L : List Nat) (hL : closedT TT.T L = true) {f : FuncId} {fn : Func} {s : ChangeSpec} {conds : List PathCond} {laid : List (String × DataW Unit)} (ts : List TypeId) (bt : TypeId)
    (hG : ∀ w : World, w.ShapedOpen C.prog → laidMetH C.prog laid w → (default : Glob).ok w fun b => b < w.heap.size) (hlaid : laidOutB C.prog = true) (hps : fn.params.toList = ts) (hin : (ts.all fun t => L.contains t) = true) (hrd : (ts.all fun t => C.prog.readableRec t && decide (t < C.prog.types.size)) = true)
    (hres : fn.resultTypes = #[bt]) (hbt : C.prog.underlying bt = some .bool) (hvars : s.vars = [])
    (hspec : ∀ ds : List (DataW H), ds.length = ts.length → s.fn H ds = { results := [.lit (.bool true)], args := ds })
    (law : ∀ as, ConfAll TT.T ts as → Gives C.prog f as (.d (.bool true)))
    (own : ownKnob C.prog.godebug = none) (started : os.Started) (noInit : C.prog.inits.idxOf? f = none) (hfn : C.prog.funcs[f]? = some fn)
    (witness : ∃ (w : World) (tape : Tape) (i : Input), w.os = os ∧ (w.forCall tape i).Shaped C.prog ∧ i.vars = [] ∧ Input.okWide C.prog (w.forCall tape i) .any w.heap.size f i ∧
      (OpenSpec.ofChange s).preRow enc C.prog fn conds false laid (w.forCall tape i).memory i.args ∧ ({} : Assume).holds C.prog (lone (Frame.enter C.prog f i.args .normal) [] (w.forCall tape i))) :
    ReturnsInHanded {} C os f .any ((OpenSpec.ofChange s).preRow enc C.prog fn conds false laid) (s.post enc C.prog fn false true false false) := by
  refine returnsInHanded_of_row (s := OpenSpec.ofChange s) (F := fun _ _ _ => 0) own started noInit hfn witness ?_
  intro W base args ds gs before hval hW _ _ _ hLd hSh _
  show Calls C.prog f args W fun e W' => ∃ v, e = .returned v ∧ s.post enc C.prog fn false true false false W args v W'
  have hW : DataW.Whole enc C.prog fn.params.toList s.vars false W args.toList ds gs before := hW
  have hW' := hW
  obtain ⟨p, q, hA, hV, rfl, hfz, hnd⟩ := hW
  have hV := show DataW.TrodVars enc C.prog W (fun _ => true) s.vars gs q from hV
  rw [hvars] at hV
  obtain ⟨rfl, rfl⟩ := trodVars_none hV
  simp only [List.append_nil] at hW'
  have hlt : ∀ x ∈ p, x.block < W.heap.size := hW'.lt
  rw [hps] at hA
  have hdl : ds.length = ts.length := trodAll_len _ _ _ _ hA
  obtain ⟨as, h1, h2⟩ := open_args (base := base) TT L hL ts args.toList ds p (fun t ht => by have := List.all_eq_true.1 hin t ht; simpa using this) (fun j t v ht hv => hval j t v (by rw [← Array.getElem?_toList, hps]; exact ht) (by rw [← Array.getElem?_toList]; exact hv)) hA
  have hr := run_pure (R := fun v => v = .d (.bool true)) (hG W hSh hLd) (law as h1) h2
  rw [Array.toArray_toList] at hr
  refine hr.mono fun e W' ⟨x, r, I, τ, ρ, he, hr, hx, hb⟩ => ?_
  subst hr
  obtain rfl := rep_bool hx
  subst he
  refine ⟨_, rfl, ds, [], p, [], p, [], hW', ?_, ?_, ?_, keptBut_below hb, fun h => by cases h⟩
  · rw [List.append_nil, hspec ds hdl, hres]
    exact trodAll_mk1 (shut_bool hbt true)
  · rw [List.append_nil, hspec ds hdl, hps]
    exact below_args hlaid hb ts args.toList ds p hrd hlt hA
  · rw [List.append_nil, hspec ds hdl, hvars]
    rfl

/-- The cells that a datum without addresses lays. -/
def flatD : Nat → DataW Unit → List Value
  | 0, _ => []
  | n + 1, d => match d with
    | .agg ps => ps.flatMap (flatD n)
    | .lit (.int k z) => [.int k z]
    | .lit (.bool b) => [.bool b]
    | .lit (.string s) => [.string ⟨s.toArray⟩]
    | _ => []
def layV (P : Program) : List (String × DataW Unit) → Array Obj → Array Obj
  | [], h => h
  | (v, d) :: l, h => layV P l (match P.globalNamed v with
    | some g => h.modify g fun
      | .cells _ t fr => .cells (flatD 4 d).toArray t fr
      | o => o
    | none => h)
end Go.AL

namespace Go.AL
open Go
set_option linter.unusedSectionVars false
variable [Inhabited Glob] [Inhabited NoLend]
set_option linter.unusedSimpArgs false
set_option linter.unusedVariables false
/-! ### A store into the last element of an owned slice (out[len(out)-1] = ..), in a drawn region -/
section
variable {P : Program} {E : Ent} {Q : Exit → AS → Prop} {s : AS}
theorem awp_regionM (TT : Tab P) (T A : List Nat) (hm : P.follows .mixedOrders = true) {id : Nat} {pre : List Oper} (mx my ln sb ia : Nat) {r rx rl rn ry d2 rz t i Ty U1 U2 V e : Nat} {xs : List (List DV)} {el : List DV} (L : List Nat)
    {y1 y2 y3 y4 y5 y6 : TypeId} {p1 p2 p3 p4 p5 p6 : String} {f1 f2 f3 f4 f5 f6 : Array Edge}
    (e1 : pre[mx]? = some ⟨some rx, .move (.tmp r), y1, p1, f1, none⟩) (e2 : pre[my]? = some ⟨some rl, .move (.tmp r), y2, p2, f2, none⟩)
    (e3 : pre[ln]? = some ⟨some rn, .call ⟨.builtin .len, #[.tmp rl], #[Ty]⟩, y3, p3, f3, none⟩) (e4 : pre[sb]? = some ⟨some ry, .binOp .sub U1 (.tmp rn) (.const (.int .i64 1)) U2, y4, p4, f4, none⟩)
    (e5 : pre[ia]? = some ⟨some d2, .indexAddr Ty (.tmp rx) (.tmp ry), y5, p5, f5, none⟩)
    (g3 : (edgeB f3 my && edgeB f4 ln && edgeB f5 mx && edgeB f5 sb) = true) (hu : (uniqB pre mx rx && uniqB pre my rl && uniqB pre ln rn && uniqB pre sb ry && uniqB pre ia d2 && freeB pre r) = true)
    (hlast : lastB pre ⟨none, .store V (.tmp d2) (.tmp rz), y6, p6, f6, none⟩ = true)
    (hx : getE s.env r = .d (.sl 1 xs (.tok t))) (hi : xs.length = i + 1) (ht : t ∈ s.toks) (hel : xs[i]? = some el)
    (hT : (TT.T Ty).t = .slice e) (hke : (TT.T e).t.known = true) (hse : (TT.T e).size = 1) (hkV : (TT.T V).t.known = true) (hsV : (TT.T V).size = 1) (hk : E.k = 0)
    (hB : lexG (A.contains stMark) pre.toArray 0 pre = true) (hS : stCheck A pre = true)
    (h : ∀ K : AS → Prop, (∀ s', FinS E Q 1 i 0 t r rz xs el L s' → K s') → rvd TT T A (pre.map (·.dst)) pre s K) :
    AWp P E (.region id (pre ++ [(⟨none, .store V (.tmp d2) (.tmp rz), y6, p6, f6, none⟩ : Oper)]).toArray true) Q s := fun hok a w hs => by
  have hj : 0 < 1 := by omega
  simp only [codeOK] at hok
  have hs2 := hs
  obtain ⟨⟨I, τ, ρ, h1, h2⟩, h3, h4⟩ := hs2
  have vr := h2 r
  rw [hx] at vr
  have hil : i < xs.length := by omega
  generalize hvr : a.tmps.getD r undef = v' at vr
  cases vr with
  | d _ _ rr' =>
  obtain ⟨b, cap, arr, T', vs, rfl, hb, hw, hsz, hc1, hc2, hxs, hvl, hvr', hcell⟩ := slTok h1 rr' ht (by omega)
  clear hvr' hcell rr'
  refine wp_region_any hm ?_
  simp only [Bool.and_eq_true, lastB] at hlast hu g3
  obtain ⟨⟨hgr, hst⟩, hdp⟩ := hlast
  obtain ⟨⟨⟨⟨⟨u1, u2⟩, u3⟩, u4⟩, u5⟩, u6⟩ := hu
  obtain ⟨⟨⟨k1, k2⟩, k3⟩, k4⟩ := g3
  have hpush : (pre ++ [(⟨none, .store V (.tmp d2) (.tmp rz), y6, p6, f6, none⟩ : Oper)]).toArray = pre.toArray.push ⟨none, .store V (.tmp d2) (.tmp rz), y6, p6, f6, none⟩ := by simp
  have hback0 : backB pre.toArray := fun i o ho e he hbe => by
    have := lexG_back pre 0 hB i o (by simpa using ho) e he hbe
    omega
  have hback : backB (pre.toArray.push ⟨none, .store V (.tmp d2) (.tmp rz), y6, p6, f6, none⟩) := fun i o ho e he hbe => by
    rcases push_get ho with ⟨_, ho'⟩ | ⟨rfl, rfl⟩
    · exact hback0 i o ho' e he hbe
    · have := List.all_eq_true.1 hst e (by simpa using he)
      rw [hbe] at this
      simpa using this
  have hsz0 : (pre ++ [(⟨none, .store V (.tmp d2) (.tmp rz), y6, p6, f6, none⟩ : Oper)]).toArray.size = pre.length + 1 := by simp
  rw [hsz0, hpush, show Array.replicate (pre.length + 1) false = (Array.replicate pre.length false).push false by rw [← Array.replicate_succ]]
  refine wpAny_push (fun i o j want ho hg => ?_) rfl hback (fun i hi => ?_) pre.length _ a _ (by simp) ?_ ?_
  · have := List.all_eq_true.1 hgr o (List.mem_of_getElem? (by simpa using ho))
    rw [hg] at this
    simpa using this
  · have := List.all_eq_true.1 hdp i (by simpa using hi)
    rw [hpush] at this
    exact depA_dep _ _ this
  · intro j o ho hl e he hbe
    obtain ⟨hl1, hl2⟩ := pushB_ge hl
    simp [Array.getD_eq_getD_getElem?] at hl2
    simp at hl1
    simp [hl1] at hl2
  have hs' : Sim E s a { w with drawn := w.drawn + 1 } := by
    obtain ⟨⟨I, τ, ρ, k1, k2⟩, h5, h6⟩ := hs
    exact ⟨⟨I, τ, ρ, k1.drew, k2⟩, h5, h6⟩
  have h0 := h (FinS E Q 1 i 0 t r rz xs el L) (fun _ h => h)
  have hinv : Inv (fun s' => ∃ s0, Eqv s0 s' ∧ FinS E Q 1 i 0 t r rz xs el L s0) := fun s s' he ⟨s0, h0, hq⟩ => ⟨s0, h0.trans he, hq⟩
  have h5 := rvd_lex (TT := TT) (T := T) (A := A) (all := pre.toArray) (K := FinS E Q 1 i 0 t r rz xs el L) (K' := fun s' => ∃ s0, Eqv s0 s' ∧ FinS E Q 1 i 0 t r rz xs el L s0) (fun s hs => ⟨s, Eqv.refl s, hs⟩) pre s (by simpa using h0)
  have h6 := aAny_lexG (stCheck_ok hS).1 (stCheck_ok hS).2 hinv pre 0 (Array.replicate pre.length false) s (by simp) (by simp) (by simp) (fun j hj => by simp at hj; simp [Array.getD_eq_getD_getElem?, hj]) (fun j o _ hj => by omega) hB h5
  have hokp : (pre.toArray.toList.all fun o => o.dst.all fun d => decide (d < E.n)) = true := by
    rw [List.all_eq_true] at hok ⊢
    exact fun o ho => hok o (by simp at ho ⊢; exact .inl ho)
  refine aAny_soundJ (TT := TT) (T := T) (A := A) (F := [(mx, rx, .slice (some ⟨b, 0, none⟩) xs.length cap), (my, rl, .slice (some ⟨b, 0, none⟩) xs.length cap), (ln, rn, .int .i64 xs.length), (sb, ry, .int .i64 i), (ia, d2, .pointer (some ⟨b, i, none⟩))]) (B := [(r, .slice (some ⟨b, 0, none⟩) xs.length cap)]) hback0 ?_ hokp ?_ ?_ ?_ pre.length _ s a _ (by simp) ?_ ?_ hs' h6
  · rintro s' a' w' ⟨s0, heq, ⟨c, us, kept, q1, q2, q3, q4, q5, q6, q7, q8⟩⟩ hsim hba hfa
    refine store1 TT L (hsim.eqv (s' := s0) ⟨heq.1.symm, heq.2.1.symm, heq.2.2.1.symm, fun t => (heq.2.2.2 t).symm⟩) q1 q2 hel hj hkV hsV q3 q4 q5 hk q6 q7 (fun b' n' cap' hsl => ?_) q8
    have e1 := hba _ (List.mem_cons_self ..)
    rw [hsl] at e1
    dsimp only at e1
    have e2 := hfa (ia, d2, .pointer (some ⟨b, i, none⟩)) (by simp)
    dsimp only at e2
    rw [e2]
    simp only [Value.slice.injEq, Option.some.injEq, Addr.mk.injEq] at e1
    rw [e1.1.1]
    simp
  · intro q hq j o ho
    simp only [List.mem_cons, List.not_mem_nil, or_false] at hq
    have ho' : pre[j]? = some o := by simpa using ho
    rcases hq with rfl
    exact freeB_ne u6 ho'
  · intro f hf
    simp only [List.mem_cons, List.not_mem_nil, or_false] at hf
    have at_ : ∀ (a : Act) (u : Nat) (v : Value), a.tmps.getD u undef = v → a.eval (.tmp u) = v := fun a u v h => h
    have hdd := (TT.ok Ty).desc
    simp only [hT] at hdd
    rcases hf with rfl | rfl | rfl | rfl | rfl
    · refine ⟨_, by simpa using e1, rfl, rfl, fun a w hba _ => ?_⟩
      have := hba _ (List.mem_cons_self ..)
      simp only [execOp]
      rw [at_ a r _ this]; rfl
    · refine ⟨_, by simpa using e2, rfl, rfl, fun a w hba _ => ?_⟩
      have := hba _ (List.mem_cons_self ..)
      simp only [execOp]
      rw [at_ a r _ this]; rfl
    · refine ⟨_, by simpa using e3, rfl, rfl, fun a w hba hg => ?_⟩
      have v1 := at_ a rl _ (hg (my, rl, .slice (some ⟨b, 0, none⟩) xs.length cap) (by simp) (edgeB_ex k1))
      simp [execOp, resolve, invoke, builtin, v1, Builtin.len_, run_underlying hdd, goInt]
    · refine ⟨_, by simpa using e4, rfl, rfl, fun a w hba hg => ?_⟩
      have v1 := at_ a rn _ (hg (ln, rn, .int .i64 xs.length) (by simp) (edgeB_ex k2))
      have hw1 : IntKind.i64.wrap ((xs.length : Int) - 1) = (i : Int) := by rw [wrap_id (by omega)]; omega
      have v2 : a.eval (.const (.int .i64 1)) = .int .i64 1 := rfl
      simp only [execOp, v1, v2]
      simp [eqGuard_at_int, binOp, Op.intArith, hw1]
    · refine ⟨_, by simpa using e5, rfl, rfl, fun a w hba hg => ?_⟩
      have v1 := at_ a rx _ (hg (mx, rx, .slice (some ⟨b, 0, none⟩) xs.length cap) (by simp) (edgeB_ex k3))
      have v2 := at_ a ry _ (hg (sb, ry, .int .i64 i) (by simp) (edgeB_ex k4))
      have hlt' : (i : Int) < xs.length := by omega
      simp only [execOp, v1, v2]
      simp [run_indexAt_slice w Ty ⟨b, 0, none⟩ xs.length cap .i64 i (by rw [hdd]; simp [Program.elem, hdd]), hlt', Program.elem, hdd, run_sizeOf_of w (TT.ok e) hke, hse, Addr.add_lit]
  · intro f hf j o ho hne
    simp only [List.mem_cons, List.not_mem_nil, or_false] at hf
    have ho' : pre[j]? = some o := by simpa using ho
    rcases hf with rfl | rfl | rfl | rfl | rfl
    · exact uniqB_ne u1 ho' hne
    · exact uniqB_ne u2 ho' hne
    · exact uniqB_ne u3 ho' hne
    · exact uniqB_ne u4 ho' hne
    · exact uniqB_ne u5 ho' hne
  · intro f hf hl
    exfalso
    simp only [Array.getD_eq_getD_getElem?] at hl
    cases hh : (Array.replicate pre.length false)[f.1]? with
    | none => rw [hh] at hl; simp at hl
    | some b =>
      rw [hh] at hl
      rw [Array.getElem?_replicate] at hh
      split at hh
      · simp only [Option.some.injEq] at hh; subst hh; simp at hl
      · cases hh
  · intro q hq
    simp only [List.mem_cons, List.not_mem_nil, or_false] at hq
    rcases hq with rfl
    exact hvr
theorem awp_regMk (TT : Tab P) (T A : List Nat) (hm : P.follows .mixedOrders = true) {id : Nat} {l : List Oper} (k mx my ln sb ia : Nat) {r rx rl rn ry d2 rz t i Ty U1 U2 V e : Nat} {xs : List (List DV)} {el : List DV} (L : List Nat)
    {y1 y2 y3 y4 y5 y6 : TypeId} {p1 p2 p3 p4 p5 p6 : String} {f1 f2 f3 f4 f5 f6 : Array Edge}
    (e0 : l.drop k = [⟨none, .store V (.tmp d2) (.tmp rz), y6, p6, f6, none⟩])
    (e1 : (l.take k)[mx]? = some ⟨some rx, .move (.tmp r), y1, p1, f1, none⟩) (e2 : (l.take k)[my]? = some ⟨some rl, .move (.tmp r), y2, p2, f2, none⟩)
    (e3 : (l.take k)[ln]? = some ⟨some rn, .call ⟨.builtin .len, #[.tmp rl], #[Ty]⟩, y3, p3, f3, none⟩) (e4 : (l.take k)[sb]? = some ⟨some ry, .binOp .sub U1 (.tmp rn) (.const (.int .i64 1)) U2, y4, p4, f4, none⟩)
    (e5 : (l.take k)[ia]? = some ⟨some d2, .indexAddr Ty (.tmp rx) (.tmp ry), y5, p5, f5, none⟩)
    (g3 : (edgeB f3 my && edgeB f4 ln && edgeB f5 mx && edgeB f5 sb) = true) (hu : (uniqB (l.take k) mx rx && uniqB (l.take k) my rl && uniqB (l.take k) ln rn && uniqB (l.take k) sb ry && uniqB (l.take k) ia d2 && freeB (l.take k) r) = true)
    (hlast : lastB (l.take k) ⟨none, .store V (.tmp d2) (.tmp rz), y6, p6, f6, none⟩ = true)
    (hB : lexG (A.contains stMark) (l.take k).toArray 0 (l.take k) = true) (hS : stCheck A (l.take k) = true)
    (hT : (TT.T Ty).t = .slice e) (hke : (TT.T e).t.known = true) (hse : (TT.T e).size = 1) (hkV : (TT.T V).t.known = true) (hsV : (TT.T V).size = 1) (hk : E.k = 0)
    (hx : getE s.env r = .d (.sl 1 xs (.tok t))) (hi : xs.length = i + 1) (ht : t ∈ s.toks) (hel : xs[i]? = some el)
    (h : ∀ K : AS → Prop, (∀ s', FinS E Q 1 i 0 t r rz xs el L s' → K s') → rvd TT T A ((l.take k).map (·.dst)) (l.take k) s K) :
    AWp P E (.region id l.toArray true) Q s := by
  have hl : l = l.take k ++ [⟨none, .store V (.tmp d2) (.tmp rz), y6, p6, f6, none⟩] := by rw [← e0, List.take_append_drop]
  rw [show l.toArray = (l.take k ++ [(⟨none, .store V (.tmp d2) (.tmp rz), y6, p6, f6, none⟩ : Oper)]).toArray from congrArg List.toArray hl]
  exact awp_regionM TT T A hm mx my ln sb ia L e1 e2 e3 e4 e5 g3 hu hlast hx hi ht hel hT hke hse hkV hsV hk hB hS h
end
/-! ### A literal slice that may be written -/
section
variable {P : Program} {E : Ent} {s : AS} {ty : TypeId} {K : AV → AS → Prop}
/-- A new block that is known whole, and a slice over it. -/
theorem op_newSliceT (op : Op) (T : TypeId) (sz n : Nat) (out : List DV) (hl : out.length = n * sz) (hn : n ≤ 9223372036854775807) (hk : K (.d (.sl sz (chunk sz n out) (.tok s.nt))) { s with toks := s.nt :: s.toks, nt := s.nt + 1 })
    (h : ∀ (a : Act) (w : World) I τ ρ, St E s.objs s.toks s.nt I τ ρ w → (∀ t, RepA I τ ρ s.objs.length (getE s.env t) (a.tmps.getD t undef)) →
      ∃ vs, RepL I τ out vs ∧ (∀ dst pos after guard, (execOp a.eval ⟨dst, op, ty, pos, after, guard⟩).run P w = .ok (.value (.slice (some ⟨w.heap.size, 0, none⟩) n n)) (w.alloc (.cells vs.toArray T)))) : OpOK P E s op ty K := by
  intro a w hs
  obtain ⟨I, τ, ρ, h1, h2⟩ := hs.ex
  obtain ⟨vs, hv, hx⟩ := h a w I τ ρ h1 h2
  obtain ⟨g1, g2⟩ := h1.allocPub vs T
  have hvl : vs.length = n * sz := by rw [← hl]; exact hv.1.symm
  obtain ⟨g3, g4⟩ := g1.newTok (some (w.heap.size, n * sz, n * sz)) (by
    rintro b e r ⟨⟩
    refine ⟨.inl h1.size, ⟨_, _, halloc_new w _, by simp [hvl]⟩, fun o ho => ?_, fun i hi he => ?_, fun t ht b' e' r' hb hbe => ?_⟩
    · simp [pub, List.getElem?_eq_none (by omega : vs.length ≤ o)]
    · have := (h1.objI i hi).1; omega
    · obtain ⟨_, ⟨cur, T', k1, _⟩, _⟩ := (h1.tok t ht).2 b' e' r' hb
      have := (Array.getElem?_eq_some_iff.1 k1).1
      omega)
  have g5 : Ext2 I τ ρ s.objs.length (pub I w.heap.size vs) (updT τ s.nt (some (w.heap.size, n * sz, n * sz))) ρ s.objs.length := ⟨⟨fun b o v hv => g4.i _ _ _ (g2.i _ _ _ hv), fun t v hv => g4.t _ _ (g2.t _ _ hv)⟩, Nat.le_refl _, fun _ _ => rfl⟩
  refine .inl ⟨_, _, hx, _, _, hk, rfl, _, _, ρ, g3, fun t => (h2 t).mono g5, .d _ _ ?_⟩
  have hfull := RepD_full (τ := updT τ s.nt (some (w.heap.size, n * sz, n * sz))) w.heap.size sz n out vs (hv.mono g5.toExt) hl hn (fun j v hj => by simp [pub, hj])
  have hcl : (chunk sz n out).length = n := chunk_length sz n out
  generalize hch : chunk sz n out = ch at hfull hcl ⊢
  subst hcl
  cases hfull with
  | sl _ _ _ a cap vals hsz hcap hmax hnil hadr hIc hrep hown => exact .sl sz ch (.tok s.nt) _ _ vals hsz hcap hmax hnil hadr hIc hrep (.inr ⟨w.heap.size, updT_new, rfl⟩)

theorem op_buildSliceT (TT : Tab P) {T e n : Nat} {parts : Array (Nat × Operand)} {z out : List DV} (ht : (TT.T T).t = .slice e) (hke : (TT.T e).t.known = true) (hz : (TT.T e).zero = some z)
    (hsz : 0 < (TT.T e).size) (hlim : n * (TT.T e).size ≤ 16777216)
    (hf : fillL (placeE (TT.T e).size) (zeros z n) (partsV s parts) = some out) (hK : K (.d (.sl (TT.T e).size (chunk (TT.T e).size n out) (.tok s.nt))) { s with toks := s.nt :: s.toks, nt := s.nt + 1 }) : OpOK P E s (.buildSlice T n parts) ty K := by
  have hne : (TT.T e).t ≠ .other := by intro he; rw [he] at hke; cases hke
  have hz0 := zeroValue_run (TT.ok e) hne hz
  have hzl : z.length = (TT.T e).size := (hz0 default).2.2.1
  have hlen : out.length = n * (TT.T e).size := by rw [fillL_length _ _ _ _ hf, zeros_length, hzl]
  have hnle : n ≤ 16777216 := by
    have := Nat.mul_le_mul_left n hsz
    omega
  refine op_newSliceT _ e (TT.T e).size n out hlen (by omega) hK fun a w I τ ρ h h2 => ?_
  obtain ⟨g1, g2, g3, g4⟩ := hz0 w
  have hcells := zeroCells_eq g3 g4 g2
  generalize (if (TT.T e).t.agg then Value.agg (z.map DV.zv).toArray else (z.map DV.zv).headD undef) = zz at *
  obtain ⟨p1, p2⟩ := parts_ok h2 parts
  have hd := (TT.ok T).desc
  simp only [ht] at hd
  have hlim' : ¬ (n * (TT.T e).size > 2 ^ 24) := by omega
  rcases Nat.eq_zero_or_pos n with rfl | hn
  · obtain ⟨ws, q1, q2⟩ := fill_ok (I := I) (τ := τ) (placeE (TT.T e).size) (partsV s parts) _ (zeros z 0) #[] out p1 p2 (RepL.nil I τ) hf
    refine ⟨ws.toList, q2, fun _ _ _ _ => ?_⟩
    unfold placeE at q1
    simp only [Array.toList_map] at q1
    simp [execOp, Instr.buildSlice, run_underlying hd, run_sizeOf_of w (TT.ok e) hke, Array.range_zero', q1, newRow]
  · have hne0 : ¬ n * (TT.T e).size = 0 := by have := Nat.mul_pos hn hsz; omega
    obtain ⟨ws, q1, q2⟩ := fill_ok (I := I) (τ := τ) (placeE (TT.T e).size) (partsV s parts) _ (zeros z n) ((Array.range (n * (TT.T e).size)).map (fun i => (z.map DV.zv).toArray[i % (z.map DV.zv).toArray.size]!)) out p1 p2
      (by rw [← hzl, range_zeros z (by omega) n]; exact RepL.zeros (zeros_all g2 n)) hf
    refine ⟨ws.toList, q2, fun _ _ _ _ => ?_⟩
    unfold placeE at q1
    simp only [execOp, Instr.buildSlice, Sem.run_bind, run_underlying hd, Result.andThen_ok, run_sizeOf_of w (TT.ok e) hke, if_neg hlim', if_neg hne0, Sem.run_pure, Sem.run_ite, g1, hcells, q1]
    simp [newRow]

end
section
variable {P : Program} {E : Ent} {all : Array Oper} {Q : Exit → AS → Prop} {s : AS} {rest : List Oper} {dst : Option Nat} {ty : TypeId} {pos : String} {after : Array Edge}
theorem sem_bsl (TT : Tab P) {T e n : Nat} {parts : Array (Nat × Operand)} {z out : List DV} (ht : (TT.T T).t = .slice e) (hke : (TT.T e).t.known = true) (hz : (TT.T e).zero = some z)
    (hsz : 0 < (TT.T e).size) (hlim : n * (TT.T e).size ≤ 16777216) (hf : fillL (placeE (TT.T e).size) (zeros z n) (partsV s parts) = some out)
    (h : Sem P E all rest Q (({ s with toks := s.nt :: s.toks, nt := s.nt + 1 } : AS).put dst (.d (.sl (TT.T e).size (chunk (TT.T e).size n out) (.tok s.nt))))) : Sem P E all (⟨dst, .buildSlice T n parts, ty, pos, after, none⟩ :: rest) Q s :=
  sem_op (K := fun v s' => Sem P E all rest Q (s'.put dst v)) (op_buildSliceT TT ht hke hz hsz hlim hf h) fun _ _ h => h
end
theorem gives_of_own {P : Program} {g : FuncId} {args : List AV} {r : AV} (h : AC P g args [] (OwnR r)) : Gives P g args r :=
  AC.erM h.noTok fun n v o t m ⟨ht, t', ho, _, _, hr, _⟩ => ⟨hr, ho, ht⟩
end Go.AL

namespace Go.AL
open Go
/-! ### What a row's listed variables hold -/
theorem laidVars_at {P : Program} {w : World} : ∀ {l : List (String × DataW Unit)} {ps : List MemPlace}, DataW.LaidVars P w l ps → ∀ n d, (n, d) ∈ l →
    ∃ g t cs fuel p, P.globalNamed n = some g ∧ (P.globals[g]?).map (·.type) = some t ∧ w.var? P n = some cs ∧ DataW.trod (fun _ => ()) P w 0 (fun _ => true) false fuel t cs.toList = some (d, p)
  | [], _, _, _, _, hm => by cases hm
  | (n', d') :: r, ps, h, n, d, hm => by
    obtain ⟨g, t, cs, fuel, p, q, h1, h2, h3, h4, h5, _⟩ := h
    rcases List.mem_cons.1 hm with e | e
    · cases e
      exact ⟨g, t, cs, fuel, p, h1, h2, h3, h4⟩
    · exact laidVars_at h5 n d e
theorem cell_of_laid_iface {P : Program} {w : World} {l : List (String × DataW Unit)} (hL : laidMet P l w) {n name : String} {d : DataW Unit} {g : Nat} {ti : TypeId} {ms : Array (String × TypeId)} (hm : (n, .iface name d) ∈ l) (hg : P.globalNamed n = some g)
    (ht : (P.globals[g]?).map (·.type) = some ti) (hi : P.underlying ti = some (.interface ms)) : ∃ v, w.cell? ⟨g, 0, none⟩ = some v ∧ (v = .nilIface ∨ ∃ te pe, v = .iface te pe) := by
  obtain ⟨ps, hv, _⟩ := hL
  obtain ⟨g', t', cs, fuel, p, h1, h2, h3, h4⟩ := laidVars_at hv n _ hm
  obtain rfl : g = g' := Option.some.inj (hg.symm.trans h1)
  obtain rfl : ti = t' := Option.some.inj (ht.symm.trans h2)
  obtain ⟨_, u, v, hcs, _⟩ := iface_of_trod hi h4
  have hc := World.var?_cell hg h3 0
  rw [Array.eq_one_of_toList hcs] at hc
  exact ⟨.iface u v, by simpa using hc, .inr ⟨u, v, rfl⟩⟩
end Go.AL
