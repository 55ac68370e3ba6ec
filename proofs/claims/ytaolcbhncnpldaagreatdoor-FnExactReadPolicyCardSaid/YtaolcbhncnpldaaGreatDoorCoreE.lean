/- The abstract logic, E: trees of memory, their owners, and functions that write into them. -/
import Derived.Test.YtaolcbhncnpldaaGreatDoorCoreD
import Derived.Lib.SliceRun
import Derived.Deep.DeepHandedRow
import Derived.Deep.DeepWitnessRowRef
import Derived.LaidLaws
import Derived.LaidHandle
import Derived.FnData
import Derived.OpenVars
set_option linter.unusedVariables false
set_option linter.unusedSimpArgs false
set_option linter.unusedSectionVars false
namespace Go.AL
open Go
set_option linter.unusedSectionVars false
variable [Inhabited Glob] [Inhabited NoLend]
set_option linter.unusedSimpArgs false
set_option linter.unusedVariables false
/-! ### Trees of memory -/
def Disj (a b : List Nat) : Prop := ∀ x ∈ a, x ∉ b
theorem Disj.symm {a b : List Nat} (h : Disj a b) : Disj b a := fun x hx hy => h x hy hx

/-- The first cells of a block. -/
def cellsAt (w : World) (b : Nat) (vs : List Value) : Prop := ∃ arr T, w.heap[b]? = some (.cells arr T (0, 0)) ∧ ∀ (j : Nat) v, vs[j]? = some v → arr[j]? = some v
theorem cellsAt.frame {w w' : World} {b : Nat} {vs : List Value} (h : cellsAt w b vs) (he : w'.heap[b]? = w.heap[b]?) : cellsAt w' b vs := by
  obtain ⟨arr, T, h1, h2⟩ := h
  exact ⟨arr, T, by rw [he]; exact h1, h2⟩
theorem cellsAt.cell {w : World} {b : Nat} {vs : List Value} (h : cellsAt w b vs) {j : Nat} {v : Value} (hv : vs[j]? = some v) : w.cell? ⟨b, j, none⟩ = some v := by
  obtain ⟨arr, T, h1, h2⟩ := h
  simp only [World.cell?, h1]
  simpa using h2 j v hv

mutual
/-- A value whose memory is a tree: these blocks, each once. -/
def TreeV (w : World) : DV → Value → List Nat → Prop
  | .int k n, v, bs => v = .int k n ∧ bs = []
  | .bool b, v, bs => v = .bool b ∧ bs = []
  | .str s, v, bs => (v = .string ⟨s.toArray⟩ ∧ s.length ≤ 9223372036854775807) ∧ bs = []
  | .sl sz xs _, v, bs => ∃ a cap, v = .slice a xs.length cap ∧ (xs.length ≤ cap ∧ cap ≤ 9223372036854775807 ∧ (a = none → cap = 0) ∧ (0 < cap → ∀ adr, a = some adr → adr.spot = none)) ∧
      ((xs = [] ∧ bs = []) ∨ ∃ b vs bs', a = some ⟨b, 0, none⟩ ∧ bs = b :: bs' ∧ b ∉ bs' ∧ cellsAt w b vs ∧ (∀ x ∈ xs, x.length = sz) ∧ TreeLL w xs vs bs')
  | .pin _ _, _, _ => False
def TreeLL (w : World) : List (List DV) → List Value → List Nat → Prop
  | [], vs, bs => vs = [] ∧ bs = []
  | x :: xs, vs, bs => ∃ v1 v2 b1 b2, vs = v1 ++ v2 ∧ bs = b1 ++ b2 ∧ Disj b1 b2 ∧ TreeL w x v1 b1 ∧ TreeLL w xs v2 b2
def TreeL (w : World) : List DV → List Value → List Nat → Prop
  | [], vs, bs => vs = [] ∧ bs = []
  | c :: cs, vs, bs => ∃ v v2 b1 b2, vs = v :: v2 ∧ bs = b1 ++ b2 ∧ Disj b1 b2 ∧ TreeV w c v b1 ∧ TreeL w cs v2 b2
end

theorem disj_app {a b c : List Nat} (h : Disj (a ++ b) c) : Disj a c ∧ Disj b c := ⟨fun x hx => h x (by simp [hx]), fun x hx => h x (by simp [hx])⟩
theorem disj_app' {a b c : List Nat} (h : Disj c (a ++ b)) : Disj c a ∧ Disj c b := ⟨fun x hx hy => h x hx (by simp [hy]), fun x hx hy => h x hx (by simp [hy])⟩
theorem app_disj {a b c : List Nat} (h : Disj a c) (h' : Disj b c) : Disj (a ++ b) c := fun x hx => by
  rcases List.mem_append.1 hx with h1 | h1
  · exact h x h1
  · exact h' x h1
theorem app_disj' {a b c : List Nat} (h : Disj c a) (h' : Disj c b) : Disj c (a ++ b) := (app_disj h.symm h'.symm).symm

theorem treeL_app {w : World} : ∀ {a c : List DV} {vs : List Value} {bs : List Nat}, TreeL w (a ++ c) vs bs ↔ ∃ v1 v2 b1 b2, vs = v1 ++ v2 ∧ bs = b1 ++ b2 ∧ Disj b1 b2 ∧ TreeL w a v1 b1 ∧ TreeL w c v2 b2
  | [], c, vs, bs => by
    constructor
    · intro h
      exact ⟨[], vs, [], bs, rfl, rfl, fun x hx => by simp at hx, ⟨rfl, rfl⟩, h⟩
    · rintro ⟨v1, v2, b1, b2, rfl, rfl, _, ⟨rfl, rfl⟩, h⟩
      exact h
  | x :: a, c, vs, bs => by
    simp only [List.cons_append, TreeL]
    constructor
    · rintro ⟨v, v2, b1, b2, rfl, rfl, hd, h1, h2⟩
      obtain ⟨u1, u2, c1, c2, rfl, rfl, hd2, h3, h4⟩ := treeL_app.1 h2
      exact ⟨v :: u1, u2, b1 ++ c1, c2, rfl, by simp, app_disj (disj_app' hd).2 hd2, ⟨v, u1, b1, c1, rfl, rfl, (disj_app' hd).1, h1, h3⟩, h4⟩
    · rintro ⟨v1, v2, b1, b2, rfl, rfl, hd, ⟨v, u1, c1, c2, rfl, rfl, hd2, h3, h4⟩, h5⟩
      exact ⟨v, u1 ++ v2, c1, c2 ++ b2, rfl, by simp, app_disj' hd2 (disj_app hd).1, h3, treeL_app.2 ⟨u1, v2, c2, b2, rfl, rfl, (disj_app hd).2, h4, h5⟩⟩

theorem treeLL_flat {w : World} : ∀ {xs : List (List DV)} {vs : List Value} {bs : List Nat}, TreeLL w xs vs bs ↔ TreeL w xs.flatten vs bs
  | [], vs, bs => by simp [TreeLL, TreeL]
  | x :: xs, vs, bs => by
    simp only [TreeLL, List.flatten_cons, treeL_app, treeLL_flat]

mutual
theorem TreeV.frame {w w' : World} : ∀ {c : DV} {v : Value} {bs : List Nat}, TreeV w c v bs → (∀ b ∈ bs, w'.heap[b]? = w.heap[b]?) → TreeV w' c v bs
  | .int _ _, _, _, h, _ => h
  | .bool _, _, _, h, _ => h
  | .str _, _, _, h, _ => h
  | .pin _ _, _, _, h, _ => h
  | .sl sz xs o, v, bs, h, hb => by
    simp only [TreeV] at h ⊢
    obtain ⟨a, cap, h1, h2, h3⟩ := h
    refine ⟨a, cap, h1, h2, ?_⟩
    rcases h3 with h3 | ⟨b, vs, bs', h3, rfl, h5, h6, h7, h8⟩
    · exact .inl h3
    · exact .inr ⟨b, vs, bs', h3, rfl, h5, h6.frame (hb b (by simp)), h7, TreeLL.frame h8 fun x hx => hb x (by simp [hx])⟩
theorem TreeLL.frame {w w' : World} : ∀ {c : List (List DV)} {v : List Value} {bs : List Nat}, TreeLL w c v bs → (∀ b ∈ bs, w'.heap[b]? = w.heap[b]?) → TreeLL w' c v bs
  | [], _, _, h, _ => h
  | x :: xs, v, bs, h, hb => by
    simp only [TreeLL] at h ⊢
    obtain ⟨v1, v2, b1, b2, rfl, rfl, hd, h1, h2⟩ := h
    exact ⟨v1, v2, b1, b2, rfl, rfl, hd, TreeL.frame h1 fun x hx => hb x (by simp [hx]), TreeLL.frame h2 fun x hx => hb x (by simp [hx])⟩
theorem TreeL.frame {w w' : World} : ∀ {c : List DV} {v : List Value} {bs : List Nat}, TreeL w c v bs → (∀ b ∈ bs, w'.heap[b]? = w.heap[b]?) → TreeL w' c v bs
  | [], _, _, h, _ => h
  | x :: xs, v, bs, h, hb => by
    simp only [TreeL] at h ⊢
    obtain ⟨v1, v2, b1, b2, rfl, rfl, hd, h1, h2⟩ := h
    exact ⟨v1, v2, b1, b2, rfl, rfl, hd, TreeV.frame h1 fun x hx => hb x (by simp [hx]), TreeL.frame h2 fun x hx => hb x (by simp [hx])⟩
end

mutual
/-- What a tree tells, where its blocks are known. -/
theorem TreeV.rep {w : World} {I : IH} {τ : TH} : ∀ {c : DV} {v : Value} {bs : List Nat}, TreeV w c v bs → (∀ b ∈ bs, ∀ o x, w.cell? ⟨b, o, none⟩ = some x → I b o = some x) → RepD I τ c.er v
  | .int k n, v, bs, h, _ => by simp only [TreeV] at h; obtain ⟨rfl, _⟩ := h; exact .int k n
  | .bool k, v, bs, h, _ => by simp only [TreeV] at h; obtain ⟨rfl, _⟩ := h; exact .bool k
  | .str s, v, bs, h, _ => by simp only [TreeV] at h; obtain ⟨⟨rfl, h2⟩, _⟩ := h; exact .str s h2
  | .pin _ _, _, _, h, _ => by simp only [TreeV] at h
  | .sl sz xs o, v, bs, h, hb => by
    simp only [TreeV] at h
    obtain ⟨a, cap, rfl, ⟨hc1, hc2, hc3, hc4⟩, h3⟩ := h
    simp only [DV.er]
    rcases h3 with ⟨rfl, rfl⟩ | ⟨b, vs, bs', rfl, rfl, h5, h6, h7, h8⟩
    · exact .sl sz [] .no a cap (fun _ => undef) (by simp) hc1 hc2 hc3 hc4 (by simp) (by simp) trivial
    · have hl : (erLL xs).length = xs.length := by rw [erLL_eq]; simp
      have hr : RepL I τ (erLL xs).flatten vs := TreeLL.rep h8 fun x hx => hb x (by simp [hx])
      have := RepD_of_flat (I := I) (τ := τ) (sz := sz) (zs := erLL xs) (own := .no) (adr := ⟨b, 0, none⟩) (cap := cap) (vs := vs) ?_ rfl (by rw [hl]; exact hc1) hc2 ?_ hr trivial
      · rw [hl] at this; exact this
      · intro x hx
        rw [erLL_eq] at hx
        obtain ⟨x', hx', rfl⟩ := List.mem_map.1 hx
        rw [erL_eq, List.length_map]
        exact h7 x' hx'
      · intro j v hv
        have := h6.cell hv
        rw [Nat.zero_add]
        exact hb b (by simp) j v this
theorem TreeLL.rep {w : World} {I : IH} {τ : TH} : ∀ {c : List (List DV)} {v : List Value} {bs : List Nat}, TreeLL w c v bs → (∀ b ∈ bs, ∀ o x, w.cell? ⟨b, o, none⟩ = some x → I b o = some x) → RepL I τ (erLL c).flatten v
  | [], _, _, h, _ => by simp only [TreeLL] at h; obtain ⟨rfl, _⟩ := h; simpa [erLL] using RepL.nil I τ
  | x :: xs, v, bs, h, hb => by
    simp only [TreeLL] at h
    obtain ⟨v1, v2, b1, b2, rfl, rfl, hd, h1, h2⟩ := h
    simp only [erLL, List.flatten_cons]
    exact (TreeL.rep h1 fun x hx => hb x (by simp [hx])).append (TreeLL.rep h2 fun x hx => hb x (by simp [hx]))
theorem TreeL.rep {w : World} {I : IH} {τ : TH} : ∀ {c : List DV} {v : List Value} {bs : List Nat}, TreeL w c v bs → (∀ b ∈ bs, ∀ o x, w.cell? ⟨b, o, none⟩ = some x → I b o = some x) → RepL I τ (erL c) v
  | [], _, _, h, _ => by simp only [TreeL] at h; obtain ⟨rfl, _⟩ := h; simpa [erL] using RepL.nil I τ
  | x :: xs, v, bs, h, hb => by
    simp only [TreeL] at h
    obtain ⟨v1, v2, b1, b2, rfl, rfl, hd, h1, h2⟩ := h
    simp only [erL]
    exact RepL.cons (TreeV.rep h1 fun x hx => hb x (by simp [hx])) (TreeL.rep h2 fun x hx => hb x (by simp [hx]))
end

/-! ### Who owns all of a value -/
mutual
/-- The tokens of a value that owns all its memory. -/
def ownD : DV → List Nat → Prop
  | .int _ _, ts => ts = []
  | .bool _, ts => ts = []
  | .str _, ts => ts = []
  | .sl _ xs own, ts => (xs = [] ∧ ts = []) ∨ ∃ t ts', own = .tok t ∧ ts = t :: ts' ∧ t ∉ ts' ∧ ownLL xs ts'
  | .pin _ _, _ => False
def ownLL : List (List DV) → List Nat → Prop
  | [], ts => ts = []
  | x :: xs, ts => ∃ t1 t2, ts = t1 ++ t2 ∧ Disj t1 t2 ∧ ownL x t1 ∧ ownLL xs t2
def ownL : List DV → List Nat → Prop
  | [], ts => ts = []
  | c :: cs, ts => ∃ t1 t2, ts = t1 ++ t2 ∧ Disj t1 t2 ∧ ownD c t1 ∧ ownL cs t2
end

/-- Blocks that tokens stand for. -/
def ofToks (τ : TH) (ts bs : List Nat) : Prop := ∀ b ∈ bs, ∃ t ∈ ts, ∃ e r, τ t = some (b, e, r)
theorem ofToks.disj {τ : TH} {toks ts us bs cs : List Nat} (hd : Disj ts us) (htk : ∀ t ∈ toks, ∀ u ∈ toks, ∀ b e r b' e' r', τ t = some (b, e, r) → τ u = some (b', e', r') → b = b' → t = u)
    (h1 : ∀ t ∈ ts, t ∈ toks) (h2 : ∀ t ∈ us, t ∈ toks) (hb : ofToks τ ts bs) (hc : ofToks τ us cs) : Disj bs cs := fun x hx hy => by
  obtain ⟨t, ht, e, r, h3⟩ := hb x hx
  obtain ⟨u, hu, e', r', h4⟩ := hc x hy
  have := htk t (h1 t ht) u (h2 u hu) _ _ _ _ _ _ h3 h4 rfl
  subst this
  exact hd t ht hu

section
variable {E : Ent} {objs : List AO} {toks : List Nat} {nt : Nat} {I : IH} {τ : TH} {ρ : Nat → Nat} {w : World}
mutual
theorem tree_of {c : DV} (h : St E objs toks nt I τ ρ w) : ∀ {v : Value} {ts : List Nat}, RepD I τ c v → ownD c ts → (∀ t ∈ ts, t ∈ toks) → ∃ bs, TreeV w c v bs ∧ ofToks τ ts bs := by
  intro v ts hr ho ht
  cases c with
  | int k n => cases hr; exact ⟨[], ⟨rfl, rfl⟩, fun b hb => by simp at hb⟩
  | bool b => cases hr; exact ⟨[], ⟨rfl, rfl⟩, fun b hb => by simp at hb⟩
  | str s => cases hr with | str _ hs => exact ⟨[], ⟨⟨rfl, hs⟩, rfl⟩, fun b hb => by simp at hb⟩
  | pin c v => simp only [ownD] at ho
  | sl sz xs own =>
    simp only [ownD] at ho
    have hr0 := hr
    cases hr with
    | sl _ _ _ a cap vals hsz hcap hmax hnil hadr hI hrep hown =>
    rcases ho with ⟨rfl, rfl⟩ | ⟨t, ts', rfl, rfl, htn, hol⟩
    · exact ⟨[], ⟨a, cap, rfl, ⟨hcap, hmax, hnil, hadr⟩, .inl ⟨rfl, rfl⟩⟩, fun b hb => by simp at hb⟩
    · rcases hown with h0 | ⟨b, hb, rfl⟩
      · have hx : xs = [] := List.eq_nil_of_length_eq_zero (by omega)
        subst hx
        exact ⟨[], ⟨a, cap, rfl, ⟨hcap, hmax, hnil, hadr⟩, .inl ⟨rfl, rfl⟩⟩, fun b hb => by simp at hb⟩
      · obtain ⟨_, vs, hvl, hvI, hvr⟩ := cells_flat hr0
        obtain ⟨_, g⟩ := h.tok t (ht t (by simp))
        obtain ⟨_, ⟨cur, T, g2, _⟩, _, _⟩ := g _ _ _ hb
        obtain ⟨bs', k1, k2⟩ := trees_of h hvr hol fun u hu => ht u (by simp [hu])
        refine ⟨b :: bs', ⟨some ⟨b, 0, none⟩, cap, rfl, ⟨hcap, hmax, hnil, hadr⟩, .inr ⟨b, vs, bs', rfl, rfl, fun hin => ?_, ⟨cur, T, g2, fun j v hv => ?_⟩, hsz, k1⟩⟩, fun x hx => ?_⟩
        · obtain ⟨u, hu, e, r, h3⟩ := k2 b hin
          have := h.tokd t (ht t (by simp)) u (ht u (by simp [hu])) _ _ _ _ _ _ hb h3 rfl
          subst this
          exact htn hu
        · have h1 := h.iok _ _ _ (hvI j v hv)
          simp only [World.cell?, g2, Nat.zero_add] at h1
          simpa using h1
        · simp only [List.mem_cons] at hx
          rcases hx with rfl | hx
          · exact ⟨t, by simp, _, _, hb⟩
          · obtain ⟨u, hu, e, r, h3⟩ := k2 x hx
            exact ⟨u, by simp [hu], e, r, h3⟩
theorem trees_of {xs : List (List DV)} (h : St E objs toks nt I τ ρ w) : ∀ {vs : List Value} {ts : List Nat}, RepL I τ xs.flatten vs → ownLL xs ts → (∀ t ∈ ts, t ∈ toks) → ∃ bs, TreeLL w xs vs bs ∧ ofToks τ ts bs := by
  intro vs ts hr ho ht
  cases xs with
  | nil =>
    have : vs = [] := by have := hr.1; simpa using this.symm
    exact ⟨[], ⟨this, rfl⟩, fun b hb => by simp at hb⟩
  | cons x xs =>
    simp only [ownLL] at ho
    obtain ⟨t1, t2, rfl, hd, h1, h2⟩ := ho
    simp only [List.flatten_cons] at hr
    have ha : RepL I τ x (vs.take x.length) := by have := hr.take x.length; rwa [List.take_left'] at this; rfl
    have hb : RepL I τ xs.flatten (vs.drop x.length) := by have := hr.drop x.length; rwa [List.drop_left'] at this; rfl
    obtain ⟨b1, k1, k2⟩ := treel_of h ha h1 fun u hu => ht u (by simp [hu])
    obtain ⟨b2, k3, k4⟩ := trees_of h hb h2 fun u hu => ht u (by simp [hu])
    refine ⟨b1 ++ b2, ⟨_, _, b1, b2, (List.take_append_drop x.length vs).symm, rfl, ofToks.disj hd h.tokd (fun u hu => ht u (by simp [hu])) (fun u hu => ht u (by simp [hu])) k2 k4, k1, k3⟩, fun b hb => ?_⟩
    rcases List.mem_append.1 hb with hb | hb
    · obtain ⟨u, hu, z⟩ := k2 b hb; exact ⟨u, by simp [hu], z⟩
    · obtain ⟨u, hu, z⟩ := k4 b hb; exact ⟨u, by simp [hu], z⟩
theorem treel_of {xs : List DV} (h : St E objs toks nt I τ ρ w) : ∀ {vs : List Value} {ts : List Nat}, RepL I τ xs vs → ownL xs ts → (∀ t ∈ ts, t ∈ toks) → ∃ bs, TreeL w xs vs bs ∧ ofToks τ ts bs := by
  intro vs ts hr ho ht
  cases xs with
  | nil =>
    have : vs = [] := by have := hr.1; simpa using this.symm
    exact ⟨[], ⟨this, rfl⟩, fun b hb => by simp at hb⟩
  | cons x xs =>
    simp only [ownL] at ho
    obtain ⟨t1, t2, rfl, hd, h1, h2⟩ := ho
    obtain ⟨v, us, rfl, hx, hxs⟩ := repL_one hr
    obtain ⟨b1, k1, k2⟩ := tree_of h hx h1 fun u hu => ht u (by simp [hu])
    obtain ⟨b2, k3, k4⟩ := treel_of h hxs h2 fun u hu => ht u (by simp [hu])
    refine ⟨b1 ++ b2, ⟨v, us, b1, b2, rfl, rfl, ofToks.disj hd h.tokd (fun u hu => ht u (by simp [hu])) (fun u hu => ht u (by simp [hu])) k2 k4, k1, k3⟩, fun b hb => ?_⟩
    rcases List.mem_append.1 hb with hb | hb
    · obtain ⟨u, hu, z⟩ := k2 b hb; exact ⟨u, by simp [hu], z⟩
    · obtain ⟨u, hu, z⟩ := k4 b hb; exact ⟨u, by simp [hu], z⟩
end
end

mutual
/-- A value that owns its memory is known by its own blocks alone. -/
theorem RepD.only {I I' : IH} {τ : TH} {c : DV} : ∀ {v : Value} {ts : List Nat}, RepD I τ c v → ownD c ts → (∀ t ∈ ts, ∀ b e r, τ t = some (b, e, r) → ∀ o, I' b o = I b o) → RepD I' τ c v := by
  intro v ts hr ho ht
  cases c with
  | int k n => cases hr; exact .int k n
  | bool b => cases hr; exact .bool b
  | str s => cases hr with | str _ hs => exact .str s hs
  | pin c v => simp only [ownD] at ho
  | sl sz xs own =>
    simp only [ownD] at ho
    have hr0 := hr
    cases hr with
    | sl _ _ _ a cap vals hsz hcap hmax hnil hadr hI hrep hown =>
    rcases ho with ⟨rfl, rfl⟩ | ⟨t, ts', rfl, rfl, htn, hol⟩
    · exact .sl sz [] own a cap vals (by simp) hcap hmax hnil hadr (by simp) (by simp) hown
    · rcases hown with h0 | ⟨b, hb, rfl⟩
      · have hx : xs = [] := List.eq_nil_of_length_eq_zero (by omega)
        subst hx
        exact .sl sz [] _ a cap vals (by simp) hcap hmax hnil hadr (by simp) (by simp) (.inl h0)
      · obtain ⟨_, vs, hvl, hvI, hvr⟩ := cells_flat hr0
        have := RepD_of_flat (I := I') (τ := τ) (sz := sz) (zs := xs) (own := .tok t) (adr := ⟨b, 0, none⟩) (cap := cap) (vs := vs) hsz rfl hcap hmax (fun j v hv => by
          have h1 := hvI j v hv
          rw [← h1]
          exact ht t (by simp) b _ _ hb _) (RepLL.only hvr hol fun u hu => ht u (by simp [hu])) (.inr ⟨b, hb, rfl⟩)
        exact this
theorem RepLL.only {I I' : IH} {τ : TH} {xs : List (List DV)} : ∀ {vs : List Value} {ts : List Nat}, RepL I τ xs.flatten vs → ownLL xs ts → (∀ t ∈ ts, ∀ b e r, τ t = some (b, e, r) → ∀ o, I' b o = I b o) → RepL I' τ xs.flatten vs := by
  intro vs ts hr ho ht
  cases xs with
  | nil =>
    have : vs = [] := by have := hr.1; simpa using this.symm
    subst this
    exact RepL.nil I' τ
  | cons x xs =>
    simp only [ownLL] at ho
    obtain ⟨t1, t2, rfl, hd, h1, h2⟩ := ho
    simp only [List.flatten_cons] at hr ⊢
    have ha : RepL I τ x (vs.take x.length) := by have := hr.take x.length; rwa [List.take_left'] at this; rfl
    have hb : RepL I τ xs.flatten (vs.drop x.length) := by have := hr.drop x.length; rwa [List.drop_left'] at this; rfl
    have := (RepL.only ha h1 fun u hu => ht u (by simp [hu])).append (RepLL.only hb h2 fun u hu => ht u (by simp [hu]))
    rwa [List.take_append_drop] at this
theorem RepL.only {I I' : IH} {τ : TH} {xs : List DV} : ∀ {vs : List Value} {ts : List Nat}, RepL I τ xs vs → ownL xs ts → (∀ t ∈ ts, ∀ b e r, τ t = some (b, e, r) → ∀ o, I' b o = I b o) → RepL I' τ xs vs := by
  intro vs ts hr ho ht
  cases xs with
  | nil =>
    have : vs = [] := by have := hr.1; simpa using this.symm
    subst this
    exact RepL.nil I' τ
  | cons x xs =>
    simp only [ownL] at ho
    obtain ⟨t1, t2, rfl, hd, h1, h2⟩ := ho
    obtain ⟨v, us, rfl, hx, hxs⟩ := repL_one hr
    exact RepL.cons (RepD.only hx h1 fun u hu => ht u (by simp [hu])) (RepL.only hxs h2 fun u hu => ht u (by simp [hu]))
end
end Go.AL

namespace Go.AL
open Go
set_option linter.unusedSectionVars false
variable [Inhabited Glob] [Inhabited NoLend]
set_option linter.unusedSimpArgs false
set_option linter.unusedVariables false
/-! ### A made slice becomes known, and keeps its owner -/
/-! ### From here on all that there is stays as it is -/
def DV.pn (v : Value) : DV → DV
  | .sl sz xs _ => .pin (.sl sz (erLL xs) .no) v
  | .pin c _ => .pin c.er v
  | c => c
def pnL (g : Nat → Value) : Nat → List DV → List DV
  | _, [] => []
  | i, c :: cs => c.pn (g i) :: pnL g (i + 1) cs
def AV.pn (g : Nat → Value) : AV → AV
  | .d c => .d (c.pn (g 0))
  | .agg cs => .agg (pnL g 0 cs)
  | .ptr o off => .ptr o off
  | _ => .unk
def AO.pn (g : Nat → Value) : AO → AO
  | .cells cs => .cells (pnL g 0 cs)
  | _ => .gone
def pnE (g : Nat → Nat → Value) : List (Nat × AV) → List (Nat × AV)
  | [] => []
  | p :: l => (p.1, p.2.pn (g p.1)) :: pnE g l
def pnO (g : Nat → Nat → Value) : Nat → List AO → List AO
  | _, [] => []
  | i, o :: l => o.pn (g i) :: pnO g (i + 1) l
/-- What a pin tells, by what was known. -/
def DV.pins (I : IH) : DV → Prop
  | .pin c v => RepD I (fun _ => none) c v
  | _ => True
def pinsL (I : IH) : List DV → Prop
  | [] => True
  | c :: cs => c.pins I ∧ pinsL I cs
def AV.pins (I : IH) : AV → Prop
  | .d c => c.pins I
  | .agg cs => pinsL I cs
  | _ => True
def AO.pins (I : IH) : AO → Prop
  | .cells cs => pinsL I cs
  | _ => True
def pinsE (I : IH) : List (Nat × AV) → Prop
  | [] => True
  | p :: l => p.2.pins I ∧ pinsE I l
def pinsO (I : IH) : List AO → Prop
  | [] => True
  | o :: l => o.pins I ∧ pinsO I l

theorem RepD.noTok {I : IH} {τ τ' : TH} : ∀ {c : DV} {v : Value}, RepD I τ c v → RepD I τ' c.er v := by
  intro c v h
  induction h with
  | int k n => exact .int k n
  | bool b => exact .bool b
  | str s hs => exact .str s hs
  | pin c v _ ih => exact ih
  | sl sz xs own a cap vals hsz hcap hmax hnil hadr hI _ hown ih =>
    have hl : (erLL xs).length = xs.length := by rw [erLL_eq]; simp
    have hget : ∀ (i : Nat) x (j : Nat) c, (erLL xs)[i]? = some x → x[j]? = some c → ∃ x' c', xs[i]? = some x' ∧ x'[j]? = some c' ∧ c = c'.er := by
      intro i x j c hx hc
      rw [erLL_eq, List.getElem?_map, Option.map_eq_some_iff] at hx
      obtain ⟨x', hx', rfl⟩ := hx
      rw [erL_eq, List.getElem?_map, Option.map_eq_some_iff] at hc
      obtain ⟨c', hc', rfl⟩ := hc
      exact ⟨x', c', hx', hc', rfl⟩
    have := RepD.sl (I := I) (τ := τ') sz (erLL xs) .no a cap vals ?_ (by rw [hl]; exact hcap) hmax hnil hadr ?_ ?_ trivial
    · rw [hl] at this
      exact this
    · intro x hx
      rw [erLL_eq] at hx
      obtain ⟨x', hx', rfl⟩ := List.mem_map.1 hx
      rw [erL_eq, List.length_map]
      exact hsz x' hx'
    · intro adr ha i x j c hx hc
      obtain ⟨x', c', h1, h2, _⟩ := hget i x j c hx hc
      exact hI adr ha i x' j c' h1 h2
    · intro i x j c hx hc
      obtain ⟨x', c', h1, h2, rfl⟩ := hget i x j c hx hc
      exact ih i x' j c' h1 h2
theorem RepD.pn {I : IH} {τ : TH} {c : DV} {v : Value} (h : RepD I τ c v) : RepD I (fun _ => none) (c.pn v) v := by
  cases c with
  | int k n => cases h; exact .int k n
  | bool b => cases h; exact .bool b
  | str s => cases h with | str _ hs => exact .str s hs
  | sl sz xs own => exact .pin _ _ h.noTok
  | pin c u =>
    cases h with
    | pin _ _ h => exact .pin _ _ h.noTok
theorem RepL.pn {I : IH} {τ : TH} {g : Nat → Value} : ∀ {cs : List DV} {vs : List Value} {i : Nat}, RepL I τ cs vs → (∀ (j : Nat) v, vs[j]? = some v → g (i + j) = v) → RepL I (fun _ => none) (pnL g i cs) vs
  | [], vs, i, h, _ => by
    have : vs = [] := by have := h.1; simpa using this.symm
    subst this
    exact RepL.nil I _
  | c :: cs, vs, i, h, hg => by
    obtain ⟨v, us, rfl, hx, hxs⟩ := repL_one h
    have h0 := hg 0 v (by simp)
    rw [Nat.add_zero] at h0
    simp only [pnL, h0]
    exact RepL.cons hx.pn (RepL.pn hxs fun j u hu => by have := hg (j + 1) u (by simpa using hu); rwa [show i + 1 + j = i + (j + 1) by omega])
theorem RepA.pn {I : IH} {τ : TH} {ρ : Nat → Nat} {n : Nat} {v : AV} {x : Value} {g : Nat → Value} (h : RepA I τ ρ n v x) (hg : ∀ (j : Nat) u, x.cells.toList[j]? = some u → g j = u) : RepA I (fun _ => none) ρ n (v.pn g) x := by
  cases h with
  | d c v hd =>
    have h0 : g 0 = x := hg 0 x (by rw [hd.cells]; rfl)
    simp only [AV.pn, h0]
    exact .d _ _ hd.pn
  | agg cs vs hl => exact .agg _ _ (RepL.pn hl fun j u hu => by rw [Nat.zero_add]; exact hg j u hu)
  | ptr o off ho => exact .ptr o off ho
  | _ => exact .unk _
theorem RepD.pinsOf {I : IH} {c : DV} {v : Value} (h : RepD I (fun _ => none) c v) : c.pins I := by
  cases h with
  | pin c v h => exact h
  | _ => trivial
theorem RepL.pinsOf {I : IH} : ∀ {cs : List DV} {vs : List Value}, RepL I (fun _ => none) cs vs → pinsL I cs
  | [], _, _ => trivial
  | c :: cs, vs, h => by
    obtain ⟨v, us, rfl, hx, hxs⟩ := repL_one h
    exact ⟨hx.pinsOf, RepL.pinsOf hxs⟩
theorem RepA.pinsOf {I : IH} {ρ : Nat → Nat} {n : Nat} {v : AV} {x : Value} (h : RepA I (fun _ => none) ρ n v x) : v.pins I := by
  cases h with
  | d c v hd => exact hd.pinsOf
  | agg cs vs hl => exact hl.pinsOf
  | _ => trivial

/-- The answer stands in a slot. -/
def QB (rt : Nat) : Exit → AS → Prop
  | .normal, s | .ret, s => getE s.env rt = .d (.bool true)
  | _, _ => False

theorem pnO_get {g : Nat → Nat → Value} : ∀ {l : List AO} {i j : Nat} {o : AO}, (pnO g i l)[j]? = some o → ∃ o', l[j]? = some o' ∧ o = o'.pn (g (i + j))
  | [], i, j, o, h => by simp [pnO] at h
  | x :: l, i, 0, o, h => by simp [pnO] at h; exact ⟨x, rfl, h.symm⟩
  | x :: l, i, j + 1, o, h => by
    simp only [pnO, List.getElem?_cons_succ] at h
    obtain ⟨o', h1, h2⟩ := pnO_get h
    exact ⟨o', by simpa using h1, by rw [h2, show i + 1 + j = i + (j + 1) by omega]⟩
theorem pnO_len {g : Nat → Nat → Value} : ∀ {l : List AO} {i : Nat}, (pnO g i l).length = l.length
  | [], _ => rfl
  | x :: l, i => by simp [pnO, pnO_len (l := l)]
theorem pinsO_of {I : IH} : ∀ {l : List AO}, (∀ (i : Nat) o, l[i]? = some o → o.pins I) → pinsO I l
  | [], _ => trivial
  | x :: l, h => ⟨h 0 x rfl, pinsO_of fun i o ho => h (i + 1) o (by simpa using ho)⟩

/-- All that there is gets its pins: a new entry. -/
theorem awp_pin {P : Program} {TT : Tab P} {E : Ent} {s : AS} {c : Code} {res : List ResultVar} {nt0 : Nat} (rt : Nat) (L : List Nat) {kept : List (Nat × AV)} {obs : List AO} (hres : res = [.tmp rt]) (hkept : pickE s.env L = kept) (hobs : s.objs = obs) (hk : E.k = 0)
    (hob : (obs.all fun o => match o with | .cells _ => true | _ => false) = true)
    (h : ∀ (E2 : Ent) (ge go : Nat → Nat → Value), E2.k = obs.length → pinsE E2.I0 (pnE ge kept) → pinsO E2.I0 (pnO go 0 obs) → AWp P E2 c (QB rt) ⟨pnE ge kept, pnO go 0 obs, [], 0⟩) :
    AWp P E c (RetQ TT res ([] : List AO).length nt0 fun _ v o t _ => v = .d (.bool true) ∧ o = [] ∧ t = []) s := by
  intro hok a w hs
  obtain ⟨⟨I, τ, ρ, h1, h2⟩, h3, h4⟩ := hs
  subst hobs hkept hres
  let ge : Nat → Nat → Value := fun t j => ((a.tmps.getD t undef).cells.toList[j]?).getD undef
  let go : Nat → Nat → Value := fun i j => match w.heap[ρ i]? with
    | some (.cells arr _ _) => (arr[j]?).getD undef
    | _ => undef
  let E2 : Ent := { w0 := w, I0 := I, ρ0 := ρ, τ0 := fun _ => none, k := s.objs.length, nt0 := 0, n := E.n, lb := fun _ => False, gs := E.gs, lbk := fun _ _ h => h, gl := h1.glob, gb := fun b hb => ⟨Nat.lt_of_lt_of_le (E.gb b hb).1 h1.size, fun h => h, fun i hi => h1.gsne hb hi⟩ }
  have hobj : ∀ (i : Nat) o, (pnO go 0 s.objs)[i]? = some o → RepO I (fun _ => none) o (w.heap[ρ i]?) := by
    intro i o ho
    obtain ⟨o', g1, rfl⟩ := pnO_get ho
    have hx := h1.obj i o' g1
    have hc := List.all_eq_true.1 hob o' (List.mem_of_getElem? g1)
    cases o' with
    | cells cs =>
      obtain ⟨vs, T, e1, e2⟩ := hx
      refine ⟨vs, T, e1, RepL.pn e2 fun j v hv => ?_⟩
      simp only [go, Nat.zero_add, e1]
      simp [hv]
    | map es => cases hc
    | gone => cases hc
  have hSt : St E2 (pnO go 0 s.objs) [] 0 I (fun _ => none) ρ w := by
    refine ⟨h1.iok, hobj, fun i hi => h1.objI i (by rwa [pnO_len] at hi), fun i j hi hj => h1.inj i j (by rwa [pnO_len] at hi) (by rwa [pnO_len] at hj), fun t ht => by simp at ht, fun t ht => by simp at ht, rfl, rfl, rfl, Nat.le_refl _, fun _ _ _ => rfl, fun _ _ _ => rfl, fun _ h => h.elim, fun _ _ => rfl, ?_, fun _ _ => rfl, ?_, Nat.le_refl _, fun b o v hv => h1.lt_of_I hv, fun _ _ => rfl⟩
    · intro i hi hi'
      rw [pnO_len] at hi'
      exact absurd hi' (Nat.not_lt.2 hi)
    · rw [pnO_len]; exact Nat.le_refl _
  have hA : ∀ t, RepA I (fun _ => none) ρ (pnO go 0 s.objs).length (getE (pnE ge (pickE s.env L)) t) (a.tmps.getD t undef) := by
    intro t
    rw [pnO_len]
    have key : ∀ L : List Nat, RepA I (fun _ => none) ρ s.objs.length (getE (pnE ge (pickE s.env L)) t) (a.tmps.getD t undef) := by
      intro L
      induction L with
      | nil => exact .unk _
      | cons x L ih =>
        simp only [pickE, pnE, getE]
        split
        · rename_i e
          subst e
          exact (h2 t).pn fun j u hu => by show (_[j]?).getD undef = u; rw [hu]; rfl
        · exact ih
    exact key L
  have hpE : pinsE I (pnE ge (pickE s.env L)) := by
    have key : ∀ L : List Nat, pinsE I (pnE ge (pickE s.env L)) := by
      intro L
      induction L with
      | nil => trivial
      | cons x L ih => exact ⟨((h2 x).pn fun j u hu => by show (_[j]?).getD undef = u; rw [hu]; rfl).pinsOf, ih⟩
    exact key L
  have hpO : pinsO I (pnO go 0 s.objs) := pinsO_of fun i o ho => by
    have hx := hobj i o ho
    cases o with
    | cells cs => obtain ⟨vs, T, _, e2⟩ := hx; exact e2.pinsOf
    | _ => trivial
  refine Go.wp_mono (h E2 ge go rfl hpE hpO hok a w ⟨⟨I, _, ρ, hSt, hA⟩, h3, h4⟩) fun e a' w' ⟨s', hq, ⟨⟨I', τ', ρ', g1, g2⟩, g3, g4⟩⟩ => ?_
  have hb : getE s'.env rt = .d (.bool true) ∧ (e = .normal ∨ e = .ret) := by
    cases e with
    | normal => exact ⟨hq, .inl rfl⟩
    | ret => exact ⟨hq, .inr rfl⟩
    | _ => exact hq.elim
  refine ⟨⟨[(rt, .d (.bool true))], [], [], s.nt⟩, ?_, ⟨⟨I', τ, ρ', ?_, fun t => ?_⟩, g3, g4⟩⟩
  · have : ∃ vs m toks, resList TT ⟨[(rt, .d (.bool true))], [], [], s.nt⟩ [.tmp rt] = some vs ∧ 0 ≤ m ∧ (∀ t ∈ toks, t ∈ ([] : List Nat)) ∧ (resV vs).scop (([] : List AO).take m).length = true ∧ (resV vs = .d (.bool true) ∧ ([] : List AO).take m = [] ∧ toks = []) :=
      ⟨[.d (.bool true)], 0, [], by simp [resList, getE], Nat.le_refl _, by simp, rfl, rfl, rfl, rfl⟩
    rcases hb.2 with rfl | rfl
    · exact this
    · exact this
  · refine ⟨g1.iok, fun i o ho => by simp at ho, fun i hi => by simp at hi, fun i j hi => by simp at hi, fun t ht => by simp at ht, fun t ht => by simp at ht, g1.os.trans h1.os, g1.tape.trans h1.tape, g1.output.trans h1.output, Nat.le_trans h1.size g1.size, fun b hb hi => ?_, fun b hb o => ?_, fun b hb => absurd hb (E.nolb b), fun i hi => by omega, fun i hi hj => by simp at hj, h1.tau, by simp [hk], h1.ntle, h1.i0, h1.tn⟩
    · have hbw : b < w.heap.size := Nat.lt_of_lt_of_le hb h1.size
      refine (g1.blk b hbw ⟨fun h => h, fun i hi e => ?_⟩).trans (h1.blk b hb hi)
      have := h1.fresh i (by omega) hi
      have e' : ρ i = b := e
      omega
    · exact (g1.ifr b ⟨Nat.lt_of_lt_of_le hb.1 h1.size, fun h => h⟩ o).trans (h1.ifr b hb o)
  · simp only [getE]
    split
    · rename_i e
      subst e
      have := g2 t
      rw [hb.1] at this
      rw [rep_bool this]
      exact .d _ _ (.bool true)
    · exact .unk _
attribute [go_sem] pickE pnE pnO DV.pn pnL AV.pn AO.pn
end Go.AL

namespace Go.AL
open Go
set_option linter.unusedSectionVars false
variable [Inhabited Glob] [Inhabited NoLend]
set_option linter.unusedSimpArgs false
set_option linter.unusedVariables false
/-! ### A call that writes into memory that it was handed -/
structure FrameW (F : List Nat) (w w' : World) : Prop where
  size : w.heap.size ≤ w'.heap.size
  same : ∀ b, b < w.heap.size → b ∉ F → w'.heap[b]? = w.heap[b]?
  os : w'.os = w.os
  tape : w'.tape = w.tape
  output : w'.output = w.output
theorem FrameW.refl (F : List Nat) (w : World) : FrameW F w w := ⟨Nat.le_refl _, fun _ _ _ => rfl, rfl, rfl, rfl⟩
theorem FrameW.trans {F : List Nat} {w w' w'' : World} (h : FrameW F w w') (h' : FrameW F w' w'') : FrameW F w w'' :=
  ⟨Nat.le_trans h.size h'.size, fun b hb hn => (h'.same b (Nat.lt_of_lt_of_le hb h.size) hn).trans (h.same b hb hn), h'.os.trans h.os, h'.tape.trans h.tape, h'.output.trans h.output⟩
theorem FrameW.mono {F F' : List Nat} {w w' : World} (h : FrameW F w w') (hf : ∀ b ∈ F, b ∈ F') : FrameW F' w w' :=
  ⟨h.size, fun b hb hn => h.same b hb fun hi => hn (hf b hi), h.os, h.tape, h.output⟩

def TreeA (w : World) : AV → Value → List Nat → Prop
  | .d c, v, bs => TreeV w c v bs
  | .agg cs, v, bs => ∃ vs, v = .agg (List.toArray vs) ∧ TreeL w cs vs bs
  | _, _, _ => False

/-- A function that fills what it was handed with numbers. -/
def MarkF (P : Program) (g : FuncId) (d d' : AV) (k k' : Int) : Prop :=
  CallOK P g ∧ ∀ (w : World) (v : Value) (bs : List Nat), TreeA w d v bs → Calls P g [v, Value.int .i64 k].toArray w fun e w' => e = .returned (.int .i64 k') ∧ TreeA w' d' v bs ∧ FrameW bs w w'

mutual
theorem TreeV.er {w : World} : ∀ {c : DV} {v : Value} {bs : List Nat}, TreeV w c v bs → TreeV w c.er v bs
  | .int _ _, _, _, h => h
  | .bool _, _, _, h => h
  | .str _, _, _, h => h
  | .pin _ _, _, _, h => by simp only [TreeV] at h
  | .sl sz xs o, v, bs, h => by
    simp only [TreeV, DV.er] at h ⊢
    have hl : (erLL xs).length = xs.length := by rw [erLL_eq]; simp
    obtain ⟨a, cap, h1, h2, h3⟩ := h
    refine ⟨a, cap, by rw [hl]; exact h1, by rw [hl]; exact h2, ?_⟩
    rcases h3 with ⟨rfl, h3⟩ | ⟨b, vs, bs', h3, rfl, h5, h6, h7, h8⟩
    · exact .inl ⟨rfl, h3⟩
    · refine .inr ⟨b, vs, bs', h3, rfl, h5, h6, fun x hx => ?_, TreeLL.er h8⟩
      rw [erLL_eq] at hx
      obtain ⟨x', hx', rfl⟩ := List.mem_map.1 hx
      rw [erL_eq, List.length_map]
      exact h7 x' hx'
theorem TreeLL.er {w : World} : ∀ {c : List (List DV)} {v : List Value} {bs : List Nat}, TreeLL w c v bs → TreeLL w (erLL c) v bs
  | [], _, _, h => h
  | x :: xs, v, bs, h => by
    simp only [TreeLL, erLL] at h ⊢
    obtain ⟨v1, v2, b1, b2, rfl, rfl, hd, h1, h2⟩ := h
    exact ⟨v1, v2, b1, b2, rfl, rfl, hd, TreeL.er h1, TreeLL.er h2⟩
theorem TreeL.er {w : World} : ∀ {c : List DV} {v : List Value} {bs : List Nat}, TreeL w c v bs → TreeL w (erL c) v bs
  | [], _, _, h => h
  | x :: xs, v, bs, h => by
    simp only [TreeL, erL] at h ⊢
    obtain ⟨v1, v2, b1, b2, rfl, rfl, hd, h1, h2⟩ := h
    exact ⟨v1, v2, b1, b2, rfl, rfl, hd, TreeV.er h1, TreeL.er h2⟩
end
theorem TreeA.er {w : World} {d : AV} {v : Value} {bs : List Nat} (h : TreeA w d v bs) : TreeA w d.er v bs := by
  cases d with
  | d c => exact TreeV.er h
  | agg cs => obtain ⟨vs, h1, h2⟩ := h; exact ⟨vs, h1, h2.er⟩
  | _ => exact h.elim

/-! ### What stays as it is, whatever that memory holds -/
/-- A value that is old, or that owns its memory by these tokens. -/
def keepD (I0 : IH) (T : List Nat) : DV → Prop
  | .pin c v => RepD I0 (fun _ => none) c v
  | .sl sz xs own => ∃ ts, ownD (.sl sz xs own) ts ∧ ∀ t ∈ ts, t ∈ T
  | _ => True
def keepL (I0 : IH) (T : List Nat) : List DV → Prop
  | [] => True
  | c :: cs => keepD I0 T c ∧ keepL I0 T cs
def keepA (I0 : IH) (T : List Nat) : AV → Prop
  | .d c => keepD I0 T c
  | .agg cs => keepL I0 T cs
  | .ptr _ _ => True
  | .unk => True
  | _ => False
def keepO (I0 : IH) (T : List Nat) : AO → Prop
  | .cells cs => keepL I0 T cs
  | .map _ => False
  | .gone => True
def keepE (I0 : IH) (T : List Nat) : List (Nat × AV) → Prop
  | [] => True
  | p :: l => keepA I0 T p.2 ∧ keepE I0 T l
def keepOs (I0 : IH) (T : List Nat) : List AO → Prop
  | [] => True
  | o :: l => keepO I0 T o ∧ keepOs I0 T l
theorem keepOs_get {I0 : IH} {T : List Nat} : ∀ {l : List AO} {i : Nat} {o : AO}, keepOs I0 T l → l[i]? = some o → keepO I0 T o
  | [], i, o, _, h => by simp at h
  | x :: l, 0, o, hk, h => by simp at h; subst h; exact hk.1
  | x :: l, i + 1, o, hk, h => keepOs_get hk.2 (by simpa using h)

open Classical in
/-- What is known behind such a call. -/
noncomputable def seenI (I : IH) (bs : List Nat) (w' : World) : IH := fun b o => if b ∈ bs then w'.cell? ⟨b, o, none⟩ else I b o

section
variable {E : Ent} {objs : List AO} {toks : List Nat} {nt : Nat} {I : IH} {τ : TH} {ρ : Nat → Nat} {w w' : World} {bs ts T : List Nat}
theorem seenI_in {b o : Nat} (h : b ∈ bs) : seenI I bs w' b o = w'.cell? ⟨b, o, none⟩ := by simp [seenI, h]
theorem seenI_out {b o : Nat} (h : b ∉ bs) : seenI I bs w' b o = I b o := by simp [seenI, h]

theorem blocks_new (h : St E objs toks nt I τ ρ w) (hbs : ofToks τ ts bs) (hts : ∀ t ∈ ts, t ∈ toks) : ∀ b ∈ bs, E.w0.heap.size ≤ b ∧ b < w.heap.size ∧ ∀ i, i < objs.length → ρ i ≠ b := fun b hb => by
  obtain ⟨t, ht, e, r, h1⟩ := hbs b hb
  obtain ⟨_, g⟩ := h.tok t (hts t ht)
  obtain ⟨g1, ⟨cur, T, g2, _⟩, _, g4⟩ := g _ _ _ h1
  exact ⟨g1.resolve_right (E.nolb _), (Array.getElem?_eq_some_iff.1 g2).1, g4⟩

theorem keep_d (h : St E objs toks nt I τ ρ w) (hbs : ofToks τ ts bs) (hts : ∀ t ∈ ts, t ∈ toks) (hT : ∀ t ∈ T, t ∈ toks) (hd : Disj T ts) {c : DV} {v : Value} (hk : keepD E.I0 T c) (hr : RepD I τ c v) : RepD (seenI I bs w') τ c v := by
  have hnew := blocks_new h hbs hts
  cases c with
  | int k n => cases hr; exact .int k n
  | bool b => cases hr; exact .bool b
  | str s => cases hr with | str _ hs => exact .str s hs
  | pin c u =>
    cases hr with
    | pin _ _ hr =>
    refine .pin _ _ (RepD.mono ⟨fun b o x hx => ?_, fun _ _ hx => by cases hx⟩ hk)
    have hb := h.i0 _ _ _ hx
    rw [seenI_out fun hin => by have := (hnew b hin).1; omega, h.ifr b ⟨hb, E.nolb b⟩]
    exact hx
  | sl sz xs own =>
    obtain ⟨us, h1, h2⟩ := hk
    refine hr.only h1 fun t ht b e r hb o => ?_
    refine seenI_out fun hin => ?_
    obtain ⟨u, hu, e', r', h3⟩ := hbs b hin
    have := h.tokd t (hT t (h2 t ht)) u (hts u hu) _ _ _ _ _ _ hb h3 rfl
    subst this
    exact hd t (h2 t ht) hu
theorem keep_l (h : St E objs toks nt I τ ρ w) (hbs : ofToks τ ts bs) (hts : ∀ t ∈ ts, t ∈ toks) (hT : ∀ t ∈ T, t ∈ toks) (hd : Disj T ts) : ∀ {cs : List DV} {vs : List Value}, keepL E.I0 T cs → RepL I τ cs vs → RepL (seenI I bs w') τ cs vs
  | [], vs, _, hr => by
    have : vs = [] := by have := hr.1; simpa using this.symm
    subst this
    exact RepL.nil _ _
  | c :: cs, vs, hk, hr => by
    obtain ⟨v, us, rfl, hx, hxs⟩ := repL_one hr
    exact RepL.cons (keep_d h hbs hts hT hd hk.1 hx) (keep_l h hbs hts hT hd hk.2 hxs)
theorem keep_a (h : St E objs toks nt I τ ρ w) (hbs : ofToks τ ts bs) (hts : ∀ t ∈ ts, t ∈ toks) (hT : ∀ t ∈ T, t ∈ toks) (hd : Disj T ts) {n : Nat} {v : AV} {x : Value} (hk : keepA E.I0 T v) (hr : RepA I τ ρ n v x) : RepA (seenI I bs w') τ ρ n v x := by
  cases hr with
  | d c v hr => exact .d _ _ (keep_d h hbs hts hT hd hk hr)
  | agg cs vs hr => exact .agg _ _ (keep_l h hbs hts hT hd hk hr)
  | ptr o off ho => exact .ptr o off ho
  | unk v => exact .unk _
  | _ => exact hk.elim
theorem keep_o (h : St E objs toks nt I τ ρ w) (hbs : ofToks τ ts bs) (hts : ∀ t ∈ ts, t ∈ toks) (hT : ∀ t ∈ T, t ∈ toks) (hd : Disj T ts) {o : AO} {x : Option Obj} (hk : keepO E.I0 T o) (hr : RepO I τ o x) : RepO (seenI I bs w') τ o x := by
  cases o with
  | cells cs => obtain ⟨vs, T', h1, h2⟩ := hr; exact ⟨vs, T', h1, keep_l h hbs hts hT hd hk h2⟩
  | map es => exact hk.elim
  | gone => trivial

theorem St.marked (h : St E objs toks nt I τ ρ w) (hbs : ofToks τ ts bs) (hts : ∀ t ∈ ts, t ∈ toks) (hT : ∀ t ∈ T, t ∈ toks) (hd : Disj T ts) (hF : FrameW bs w w') {objs' : List AO} (hl : objs'.length = objs.length)
    (hobj : ∀ (i : Nat) o, objs'[i]? = some o → RepO (seenI I bs w') τ o (w'.heap[ρ i]?)) : St E objs' T nt (seenI I bs w') τ ρ w' := by
  have hnew := blocks_new h hbs hts
  have hold : ∀ b, b < E.w0.heap.size → b ∉ bs := fun b hb hin => by have := (hnew b hin).1; omega
  have hobn : ∀ i, i < objs.length → ρ i ∉ bs := fun i hi hin => (hnew _ hin).2.2 i hi rfl
  refine ⟨fun b o v hv => ?_, hobj, fun i hi => ?_, fun i j hi hj => h.inj i j (by omega) (by omega), fun t ht => ?_, fun t ht u hu => h.tokd t (hT t ht) u (hT u hu), hF.os.trans h.os, hF.tape.trans h.tape, hF.output.trans h.output, Nat.le_trans h.size hF.size, fun b hb hi => ?_, fun b hb o => ?_, fun b hb => absurd hb (E.nolb b), h.rho, fun i hi hj => h.fresh i hi (by omega), h.tau, by rw [hl]; exact h.len, h.ntle, h.i0, h.tn⟩
  · by_cases hin : b ∈ bs
    · rwa [seenI_in hin] at hv
    · rw [seenI_out hin] at hv
      have h1 := h.iok b o v hv
      have h2 := h.lt_of_I hv
      simpa [World.cell?, hF.same b h2 hin] using h1
  · rw [hl] at hi
    refine ⟨Nat.lt_of_lt_of_le (h.objI i hi).1 hF.size, fun off => ?_⟩
    rw [seenI_out (hobn i hi)]
    exact (h.objI i hi).2 off
  · obtain ⟨g1, g⟩ := h.tok t (hT t ht)
    refine ⟨g1, fun b e r hb => ?_⟩
    obtain ⟨k1, ⟨cur, T', k2, k3⟩, k4, k5⟩ := g b e r hb
    have hin : b ∉ bs := fun hin => by
      obtain ⟨u, hu, e', r', h3⟩ := hbs b hin
      have := h.tokd t (hT t ht) u (hts u hu) _ _ _ _ _ _ hb h3 rfl
      subst this
      exact hd t ht hu
    refine ⟨k1, ⟨cur, T', ?_, k3⟩, fun o ho => ?_, fun i hi => k5 i (by omega)⟩
    · rw [hF.same b (Array.getElem?_eq_some_iff.1 k2).1 hin]; exact k2
    · rw [seenI_out hin]; exact k4 o ho
  · rw [hF.same b (Nat.lt_of_lt_of_le hb h.size) (hold b hb)]
    exact h.blk b hb hi
  · rw [seenI_out (hold b hb.1)]
    exact h.ifr b hb o
end

/-! ### The same, in a walk -/
/-- The call and what is stored of it. -/
theorem mark_ops {P : Program} {g : FuncId} {ta tb tr tk : Nat} {tys : Array TypeId} {y3 y4 : TypeId} {p3 p4 : String} {f3 f4 : Array Edge} {all : Array Oper} {Q : Exit → Act → World → Prop} {a : Act} {w : World} {v : Value} {k : Int} {R : Ending → World → Prop}
    (hc : CallOK P g) (ha : a.tmps.getD ta undef = v) (hb : a.tmps.getD tb undef = .int .i64 k) (hr : Calls P g [v, Value.int .i64 k].toArray w R) (hR : ∀ e w', R e w' → ∃ x, e = .returned x ∧ Q .normal ((a.put (some tr) x).put (some tk) ((a.put (some tr) x).eval (.tmp tr))) w') :
    wpList P all Q [⟨some tr, .call ⟨.value (.func g), #[.tmp ta, .tmp tb], tys⟩, y3, p3, f3, none⟩, ⟨some tk, .assign (.tmp tr), y4, p4, f4, none⟩] a w := by
  refine wpList_plain rfl fun K hK => ?_
  unfold Oper.wp
  have e : (execOp a.eval ⟨some tr, .call ⟨.value (.func g), #[.tmp ta, .tmp tb], tys⟩, y3, p3, f3, none⟩).run P w = .ok (.enter g [v, Value.int .i64 k].toArray) w := by
    have e1 : a.eval (.tmp ta) = v := ha
    have e2 : a.eval (.tmp tb) = .int .i64 k := hb
    have := hc [v, Value.int .i64 k].toArray w
    simp only [execOp, resolve, Act.eval, Deferred.ofValue, pure_bind, invoke, Array.empty_append]
    simpa [Act.eval, ha, hb] using this
  rw [e]
  refine Calls.mono hr fun e w' h => ?_
  obtain ⟨x, rfl, hx⟩ := hR e w' h
  refine hK _ _ (wpList_plain rfl fun K hK => ?_)
  refine wp_of_value (x := (a.put (some tr) x).eval (.tmp tr)) rfl ?_
  exact hK _ _ (wpList_nil hx)

theorem put_at {a : Act} {n d : Nat} {x : Value} (hs : a.tmps.size = n) (hd : d < n) : (a.put (some d) x).tmps.getD d undef = x := by rw [Act.getD_put a d x d (by omega), if_pos rfl]
theorem put_ne {a : Act} {n d t : Nat} {x : Value} (hs : a.tmps.size = n) (hd : d < n) (hne : t ≠ d) : (a.put (some d) x).tmps.getD t undef = a.tmps.getD t undef := by rw [Act.getD_put a d x t (by omega), if_neg hne]
theorem put_size {a : Act} {n d : Nat} {x : Value} (hs : a.tmps.size = n) : (a.put (some d) x).tmps.size = n := by simp [Act.put, hs]
theorem put_defers {a : Act} {d : Nat} {x : Value} (hs : a.defers = []) : (a.put (some d) x).defers = [] := by simpa [Act.put] using hs

def offB (L : List Nat) (t : Nat) : Bool := !L.contains t
theorem off_ne {L : List Nat} {t u : Nat} (h : offB L t = true) (hu : u ∈ L) : t ≠ u := fun e => by
  subst e
  simp [offB] at h
  exact h hu

/-- The kept slots, behind it. -/
theorem keep_slots {E : Ent} {I I' : IH} {τ : TH} {ρ : Nat → Nat} {n : Nat} {T bad : List Nat} {env : List (Nat × AV)} {a a' : Act} (hA : ∀ t, RepA I τ ρ n (getE env t) (a.tmps.getD t undef)) (hbad : ∀ t, offB bad t = true → a'.tmps.getD t undef = a.tmps.getD t undef)
    (hkeep : ∀ v x, keepA E.I0 T v → RepA I τ ρ n v x → RepA I' τ ρ n v x) : ∀ (L : List Nat) {kept : List (Nat × AV)}, pickE env L = kept → keepE E.I0 T kept → (L.all fun t => offB bad t) = true → ∀ t, RepA I' τ ρ n (getE kept t) (a'.tmps.getD t undef)
  | [], _, rfl, _, _, t => .unk _
  | u :: L, _, rfl, hk, hL, t => by
    simp only [pickE, getE]
    simp only [List.all_cons, Bool.and_eq_true] at hL
    split
    · rename_i e
      subst e
      rw [hbad _ hL.1]
      exact hkeep _ _ hk.1 (hA _)
    · exact keep_slots hA hbad hkeep L rfl hk.2 hL.2 t

theorem awp_markO {P : Program} (TT : Tab P) {E : Ent} {Q : Exit → AS → Prop} {s : AS} {rest : Code} {id ta tb tr tk tp Ty : Nat} {g : FuncId} {tys : Array TypeId} {y1 y2 y3 y4 : TypeId} {p1 p2 p3 p4 : String} {f1 f2 f3 f4 : Array Edge} (L ts T : List Nat) {kept : List (Nat × AV)} {o : Nat} {ds ds0 ds' : List DV} {k k' : Int}
    (hm : MarkF P g (.agg ds0) (.agg ds') k k') (he : erL ds = ds0) (he' : erL ds' = ds') (hx : getE s.env tp = .ptr o 0) (hob : s.objs[o]? = some (.cells ds)) (hk : getE s.env tk = .d (.int .i64 k)) (ho : ownL ds ts) (hts : ∀ t ∈ ts, t ∈ s.toks) (hT : ∀ t ∈ T, t ∈ s.toks) (hd : Disj T ts)
    (hkn : (TT.T Ty).t.known = true) (hagg : (TT.T Ty).t.agg = true) (hsz : (TT.T Ty).size = ds.length)
    (hkept : pickE s.env L = kept) (hke : keepE E.I0 T kept) (hko : keepOs E.I0 T (s.objs.set o .gone))
    (hL : (L.all fun t => offB [ta, tb, tr, tk] t) = true) (hne : (offB [tb] ta && offB [ta] tk) = true)
    (h : AWp P E rest Q ⟨(tk, .d (.int .i64 k')) :: kept, s.objs.set o (.cells ds'), T, s.nt⟩) :
    AWp P E (.seq (.region id [⟨some ta, .load Ty (.tmp tp), y1, p1, f1, none⟩, ⟨some tb, .move (.tmp tk), y2, p2, f2, none⟩, ⟨some tr, .call ⟨.value (.func g), #[.tmp ta, .tmp tb], tys⟩, y3, p3, f3, none⟩, ⟨some tk, .assign (.tmp tr), y4, p4, f4, none⟩].toArray false) rest) Q s := by
  intro hok a w hs
  obtain ⟨⟨I, τ, ρ, h1, h2⟩, h3, h4⟩ := hs
  simp only [codeOK, List.all_cons, List.all_nil, Option.all_some, Bool.and_eq_true, decide_eq_true_eq, Bool.and_true] at hok
  obtain ⟨⟨n1, n2, n3, n4⟩, hok⟩ := hok
  simp only [Bool.and_eq_true] at hne
  have e1 : ta ≠ tb := off_ne hne.1 (by simp)
  have e2 : tk ≠ ta := off_ne hne.2 (by simp)
  have hvx := h2 tp
  rw [hx] at hvx
  obtain ⟨hp, hlo⟩ := rep_ptr hvx
  obtain ⟨vs, T', hb, hr⟩ := h1.obj o _ hob
  have hvl : vs.length = (TT.T Ty).size := by rw [hsz]; exact hr.1.symm
  have hrun := run_loadVar_of (P := P) w (TT.ok Ty) hkn ⟨ρ o, 0, none⟩ rfl vs hvl (fun hf => by rw [hagg] at hf; cases hf) (fun j v hv => by
    simpa [World.cell?, hb] using hv)
  have hmk : mkC (TT.T Ty) vs = .agg vs.toArray := by simp [mkC, hagg]
  rw [hmk] at hrun
  refine wp_seq (wp_region_lit ?_)
  refine wpList_plain rfl fun K hK => wp_of_value (w' := w) (x := .agg vs.toArray) ?_ (hK _ _ ?_)
  · have hp' : a.tmps[tp]?.getD undef = .pointer (some ⟨ρ o, 0, none⟩) := by simpa [Array.getD_eq_getD_getElem?] using hp
    simp [execOp, Act.eval, hp', Instr.loadAt, Instr.sureAddr, hrun]
  clear hK K
  generalize ha1 : a.put (some ta) (.agg vs.toArray) = a1
  have s1 : a1.tmps.size = E.n := by rw [← ha1]; exact put_size h3
  refine wpList_plain rfl fun K hK => wp_of_value (x := a1.eval (.tmp tk)) rfl (hK _ _ ?_)
  clear hK K
  generalize ha2 : a1.put (some tb) (a1.eval (.tmp tk)) = a2
  have s2 : a2.tmps.size = E.n := by rw [← ha2]; exact put_size s1
  obtain ⟨bs, t1, t2⟩ := treel_of h1 hr ho hts
  have t1' : TreeA w (.agg ds0) (.agg vs.toArray) bs := by rw [← he]; exact ⟨vs, rfl, TreeL.er t1⟩
  have hkk := h2 tk
  rw [hk] at hkk
  have va : a2.tmps.getD ta undef = .agg vs.toArray := by
    rw [← ha2, put_ne s1 n2 e1, ← ha1, put_at h3 n1]
  have vb : a2.tmps.getD tb undef = .int .i64 k := by
    rw [← ha2, put_at s1 n2]
    show a1.tmps.getD tk undef = _
    rw [← ha1, put_ne h3 n1 e2]
    exact rep_int hkk
  refine mark_ops hm.1 va vb (hm.2 w _ bs t1') fun e w' ⟨q1, q2, q3⟩ => ⟨_, q1, ?_⟩
  generalize ha3 : a2.put (some tr) (.int .i64 k') = a3
  have s3 : a3.tmps.size = E.n := by rw [← ha3]; exact put_size s2
  have hbad : ∀ t, offB [ta, tb, tr, tk] t = true → (a3.put (some tk) (a3.eval (.tmp tr))).tmps.getD t undef = a.tmps.getD t undef := fun t ht => by
    rw [put_ne s3 n4 (off_ne ht (by simp)), ← ha3, put_ne s2 n3 (off_ne ht (by simp)), ← ha2, put_ne s1 n2 (off_ne ht (by simp)), ← ha1, put_ne h3 n1 (off_ne ht (by simp))]
  have hlen : (s.objs.set o (.cells ds')).length = s.objs.length := by simp
  refine h hok _ w' ⟨⟨seenI I bs w', τ, ρ, h1.marked t2 hts hT hd q3 hlen fun i x hi => ?_, fun t => ?_⟩, put_size s3, ?_⟩
  · have hlt : i < s.objs.length := by rw [← hlen]; exact (List.getElem?_eq_some_iff.1 hi).1
    rw [q3.same _ (h1.objI i hlt).1 fun hin => (blocks_new h1 t2 hts _ hin).2.2 i hlt rfl]
    by_cases hio : i = o
    · subst hio
      simp [hlt] at hi
      subst hi
      obtain ⟨vs', q4, q5⟩ := q2
      have : vs' = vs := by have := Value.agg.inj q4; simpa using this.symm
      subst this
      exact ⟨vs', T', hb, by have := TreeL.rep (I := seenI I bs w') (τ := τ) q5 (fun b hb o x hx => by rw [seenI_in hb]; exact hx); rwa [he'] at this⟩
    · rw [List.getElem?_set_ne (fun e => hio e.symm)] at hi
      exact keep_o h1 t2 hts hT hd (keepOs_get hko (by rw [List.getElem?_set_ne (fun e => hio e.symm)]; exact hi)) (h1.obj i x hi)
  · rw [hlen]
    simp only [getE]
    split
    · rename_i e
      subst e
      rw [put_at s3 n4]
      show RepA _ _ _ _ _ (a3.tmps.getD tr undef)
      rw [← ha3, put_at s2 n3]
      exact .d _ _ (.int _ _)
    · exact keep_slots h2 hbad (fun v x => keep_a h1 t2 hts hT hd) L hkept hke hL t
  · exact put_defers (by rw [← ha3]; exact put_defers (by rw [← ha2]; exact put_defers (by rw [← ha1]; exact put_defers h4)))
end Go.AL

namespace Go.AL
open Go
set_option linter.unusedSectionVars false
variable [Inhabited Glob] [Inhabited NoLend]
set_option linter.unusedSimpArgs false
set_option linter.unusedVariables false
/-! ### Functions that write into memory that they were handed: slots that hold known values -/
def getP : List (Nat × Value) → Nat → Option Value
  | [], _ => none
  | p :: l, t => if t = p.1 then some p.2 else getP l t
structure PS (n : Nat) (env : List (Nat × Value)) (M : World → Prop) (a : Act) (w : World) : Prop where
  sz : a.tmps.size = n
  df : a.defers = []
  ev : ∀ t v, getP env t = some v → a.tmps.getD t undef = v
  m : M w
def pev (env : List (Nat × Value)) : Operand → Option Value
  | .tmp t => getP env t
  | .const v => some v
  | _ => none
theorem PS.eval {n : Nat} {env : List (Nat × Value)} {M : World → Prop} {a : Act} {w : World} (h : PS n env M a w) {x : Operand} {v : Value} (hx : pev env x = some v) : a.eval x = v := by
  cases x with
  | tmp t => exact h.ev t v hx
  | const c => simp only [pev, Option.some.injEq] at hx; subst hx; rfl
  | _ => cases hx
theorem PS.put {n : Nat} {env : List (Nat × Value)} {M M' : World → Prop} {a : Act} {w w' : World} (h : PS n env M a w) {d : Nat} (hd : d < n) (v : Value) (hm : M' w') : PS n ((d, v) :: env) M' (a.put (some d) v) w' := by
  refine ⟨put_size h.sz, put_defers h.df, fun t u ht => ?_, hm⟩
  simp only [getP] at ht
  split at ht
  · rename_i e
    subst e
    cases ht
    exact put_at h.sz hd
  · rename_i e
    rw [put_ne h.sz hd e]
    exact h.ev t u ht
theorem PS.sub {n : Nat} {env env' : List (Nat × Value)} {M M' : World → Prop} {a : Act} {w : World} (h : PS n env M a w) (he : ∀ p ∈ env', getP env p.1 = some p.2) (hm : ∀ w, M w → M' w) : PS n env' M' a w := by
  refine ⟨h.sz, h.df, fun t v ht => ?_, hm w h.m⟩
  have key : ∀ l : List (Nat × Value), (∀ p ∈ l, getP env p.1 = some p.2) → getP l t = some v → getP env t = some v := by
    intro l
    induction l with
    | nil => intro _ h; cases h
    | cons p l ih =>
      intro hl hg
      simp only [getP] at hg
      split at hg
      · rename_i e; cases hg; rw [e]; exact hl p (by simp)
      · exact ih (fun q hq => hl q (by simp [hq])) hg
  exact h.ev t v (key env' he ht)

def PW (P : Program) (n : Nat) (c : Code) (Q : Exit → Act → World → Prop) (env : List (Nat × Value)) (M : World → Prop) : Prop := ∀ a w, PS n env M a w → c.wp P Q a w
def PR (P : Program) (n : Nat) (all : Array Oper) (l : List Oper) (Q : Exit → Act → World → Prop) (env : List (Nat × Value)) (M : World → Prop) : Prop := ∀ a w, PS n env M a w → wpList P all Q l a w
def PQ (n : Nat) (Q : Exit → Act → World → Prop) (e : Exit) (env : List (Nat × Value)) (M : World → Prop) : Prop := ∀ a w, PS n env M a w → Q e a w
section
variable {P : Program} {n : Nat} {Q : Exit → Act → World → Prop} {env : List (Nat × Value)} {M : World → Prop}
theorem pw_seqr {id : Nat} {l : List Oper} {y : Code} (h : PR P n l.toArray l (Exit.then (fun a w => y.wp P Q a w) Q) env M) : PW P n (.seq (.region id l.toArray false) y) Q env M := fun a w hs => wp_seq (wp_region_lit (h a w hs))
theorem pw_region {id : Nat} {l : List Oper} (h : PR P n l.toArray l Q env M) : PW P n (.region id l.toArray false) Q env M := fun a w hs => wp_region_lit (h a w hs)
theorem pw_seq {x y : Code} (h : PW P n x (Exit.then (fun a w => y.wp P Q a w) Q) env M) : PW P n (.seq x y) Q env M := fun a w hs => wp_seq (h a w hs)
theorem pw_block {id : Nat} {c : Code} (h : PW P n c (Exit.inBlock id Q) env M) : PW P n (.block id c) Q env M := fun a w hs => wp_block (h a w hs)
theorem pw_skip (h : PQ n Q .normal env M) : PW P n .skip Q env M := fun a w hs => wp_skip (h a w hs)
theorem pw_ret (h : PQ n Q .ret env M) : PW P n .ret Q env M := fun a w hs => wp_ret (h a w hs)
theorem pw_exit {id : Nat} (h : PQ n Q (.exit id) env M) : PW P n (.exit id) Q env M := fun a w hs => wp_exit (h a w hs)
theorem pw_cond_t {c : Operand} {x y : Code} (hc : pev env c = some (.bool true)) (h : PW P n x Q env M) : PW P n (.cond c x y) Q env M := fun a w hs => wp_cond_true (hs.eval hc) (h a w hs)
theorem pw_cond_f {c : Operand} {x y : Code} (hc : pev env c = some (.bool false)) (h : PW P n y Q env M) : PW P n (.cond c x y) Q env M := fun a w hs => wp_cond_false (hs.eval hc) (h a w hs)
theorem pw_weak {c : Code} {M' : World → Prop} (hm : ∀ w, M w → M' w) (h : PW P n c Q env M') : PW P n c Q env M := fun a w hs => h a w ⟨hs.sz, hs.df, hs.ev, hm w hs.m⟩
theorem pw_sub {c : Code} {env' : List (Nat × Value)} {M' : World → Prop} (he : ∀ p ∈ env', getP env p.1 = some p.2) (hm : ∀ w, M w → M' w) (h : PW P n c Q env' M') : PW P n c Q env M := fun a w hs => h a w (hs.sub he hm)
theorem pr_nil {all : Array Oper} (h : PQ n Q .normal env M) : PR P n all [] Q env M := fun a w hs => wpList_nil (h a w hs)
theorem pq_then {N : Act → World → Prop} (h : ∀ a w, PS n env M a w → N a w) : PQ n (Exit.then N Q) .normal env M := h
theorem pq_seq {y : Code} (h : PW P n y Q env M) : PQ n (Exit.then (fun a w => y.wp P Q a w) Q) .normal env M := h
theorem pq_then_ret {N : Act → World → Prop} (h : PQ n Q .ret env M) : PQ n (Exit.then N Q) .ret env M := h
theorem pq_then_exit {N : Act → World → Prop} {id : Nat} (h : PQ n Q (.exit id) env M) : PQ n (Exit.then N Q) (.exit id) env M := h
theorem pq_block_normal {id : Nat} (h : PQ n Q .normal env M) : PQ n (Exit.inBlock id Q) .normal env M := h
theorem pq_block_ret {id : Nat} (h : PQ n Q .ret env M) : PQ n (Exit.inBlock id Q) .ret env M := h
theorem pq_block_here {id : Nat} (h : PQ n Q .normal env M) : PQ n (Exit.inBlock id Q) (.exit id) env M := fun a w hs => by
  simp only [Exit.inBlock, if_true]; exact h a w hs
theorem pq_block_far {id id' : Nat} (hne : Nat.beq id' id = false) (h : PQ n Q (.exit id') env M) : PQ n (Exit.inBlock id Q) (.exit id') env M := fun a w hs => by
  have : ¬ id' = id := fun e => by subst e; simp at hne
  simp only [Exit.inBlock, this, if_false]; exact h a w hs
/-- A loop that counts. -/
theorem pw_loop {c : Code} (N ti : Nat) (fe : Nat → List (Nat × Value)) (fm : Nat → World → Prop) (hti : ∀ i, getP (fe i) ti = some (.int .i64 i)) (h0 : env = fe 0 ∧ M = fm 0)
    (round : ∀ i, i ≤ N → PW P n c (Exit.then (fun a w => i < N ∧ PS n (fe (i + 1)) (fm (i + 1)) a w) Q) (fe i) (fm i)) : PW P n (.loop c) Q env M := by
  obtain ⟨rfl, rfl⟩ := h0
  intro a w hs
  let μ : Act → World → Nat := fun a _ => match a.tmps.getD ti undef with
    | .int _ m => N + 1 - m.toNat
    | _ => 0
  have hμ : ∀ i a w, PS n (fe i) (fm i) a w → μ a w = N + 1 - i := fun i a w h => by
    have := h.ev ti _ (hti i)
    simp only [μ, this, Int.toNat_natCast]
  refine wp_loop (fun a w => ∃ i, i ≤ N ∧ PS n (fe i) (fm i) a w) μ ⟨0, Nat.zero_le _, hs⟩ fun a w ⟨i, hi, hp⟩ => ?_
  refine Go.wp_mono (round i hi a w hp) fun e a' w' hq => ?_
  cases e with
  | normal =>
    obtain ⟨hlt, hp'⟩ := hq
    refine ⟨⟨i + 1, hlt, hp'⟩, ?_⟩
    rw [hμ i a w hp, hμ (i + 1) a' w' hp']
    omega
  | _ => exact hq

variable {all : Array Oper} {rest : List Oper} {y : TypeId} {p : String} {f : Array Edge} {d : Nat} {x x2 : Operand}
theorem pr_move {v : Value} (hx : pev env x = some v) (hd : d < n) (h : PR P n all rest Q ((d, v) :: env) M) : PR P n all (⟨some d, .move x, y, p, f, none⟩ :: rest) Q env M := fun a w hs =>
  wpList_plain rfl fun K hK => wp_of_value (x := a.eval x) rfl (hK _ _ (by rw [hs.eval hx]; exact h _ _ (hs.put hd v hs.m)))
theorem pr_assign {v : Value} (hx : pev env x = some v) (hd : d < n) (h : PR P n all rest Q ((d, v) :: env) M) : PR P n all (⟨some d, .assign x, y, p, f, none⟩ :: rest) Q env M := fun a w hs =>
  wpList_plain rfl fun K hK => wp_of_value (x := a.eval x) rfl (hK _ _ (by rw [hs.eval hx]; exact h _ _ (hs.put hd v hs.m)))
theorem pr_bin {op : BinOp} {T U : TypeId} {k : IntKind} {m m' : Int} {r : DV} (hx : pev env x = some (.int k m)) (hy : pev env x2 = some (.int k m')) (hr : binI op k m m' = some r) (hd : d < n) (h : PR P n all rest Q ((d, r.zv) :: env) M) :
    PR P n all (⟨some d, .binOp op T x x2 U, y, p, f, none⟩ :: rest) Q env M := fun a w hs => by
  have h3 := hs.eval hx
  have h4 := hs.eval hy
  refine wpList_plain rfl fun K hK => wp_of_value (w' := w) (x := r.zv) ?_ (hK _ _ (h _ _ (hs.put hd r.zv hs.m)))
  cases op <;> simp only [binI, Option.some.injEq, reduceCtorEq] at hr <;> first
    | (subst hr; simp [execOp, h3, h4, eqGuard_at_int, binOp, Op.intArith, Op.intBits, Op.intCmp, DV.zv])
    | (split at hr
       · cases hr
       · rename_i hb
         cases hr
         simp [execOp, h3, h4, eqGuard_at_int, binOp, Op.intDiv, hb, DV.zv])
    | cases hr
theorem pr_len (TT : Tab P) {T e : Nat} {tys : Array TypeId} {a0 : Option Addr} {m cap : Nat} (hx : pev env x = some (.slice a0 m cap)) (ht : (TT.T T).t = .slice e) (htys : tys = #[T]) (hd : d < n) (h : PR P n all rest Q ((d, .int .i64 m) :: env) M) :
    PR P n all (⟨some d, .call ⟨.builtin .len, #[x], tys⟩, y, p, f, none⟩ :: rest) Q env M := fun a w hs => by
  have h3 := hs.eval hx
  have hdd := (TT.ok T).desc
  simp only [ht] at hdd
  refine wpList_plain rfl fun K hK => wp_of_value (w' := w) (x := .int .i64 m) ?_ (hK _ _ (h _ _ (hs.put hd _ hs.m)))
  simp [execOp, resolve, invoke, builtin, htys, h3, Builtin.len_, run_underlying hdd, goInt]
theorem pr_iaddr (TT : Tab P) {T e b m cap sz : Nat} {k : IntKind} {i : Int} (hx : pev env x = some (.slice (some ⟨b, 0, none⟩) m cap)) (hy : pev env x2 = some (.int k i)) (ht : (TT.T T).t = .slice e) (hke : (TT.T e).t.known = true) (hsz : (TT.T e).size = sz) (h0 : 0 ≤ i) (h1 : i.toNat < m) (hd : d < n)
    (h : PR P n all rest Q ((d, .pointer (some ⟨b, i.toNat * sz, none⟩)) :: env) M) : PR P n all (⟨some d, .indexAddr T x x2, y, p, f, none⟩ :: rest) Q env M := fun a w hs => by
  have h3 := hs.eval hx
  have h4 := hs.eval hy
  have hdd := (TT.ok T).desc
  simp only [ht] at hdd
  have hlt' : i < m := by omega
  refine wpList_plain rfl fun K hK => wp_of_value (w' := w) (x := .pointer (some ⟨b, i.toNat * sz, none⟩)) ?_ (hK _ _ (h _ _ (hs.put hd _ hs.m)))
  simp only [execOp, h3, h4]
  simp [run_indexAt_slice w T ⟨b, 0, none⟩ m cap k i (by rw [hdd]; simp [Program.elem, hdd]), h0, hlt', Program.elem, hdd, run_sizeOf_of w (TT.ok e) hke, hsz, Addr.add_lit]
theorem pr_faddr (TT : Tab P) {T b off ff fo ft : Nat} {fs : List (Nat × Nat)} (hx : pev env x = some (.pointer (some ⟨b, off, none⟩))) (ht : (TT.T T).t = .strct fs) (hf : fs[ff]? = some (fo, ft)) (hk : (TT.T ft).t.known = true) (hz : (TT.T ft).size ≠ 0) (hd : d < n)
    (h : PR P n all rest Q ((d, .pointer (some ⟨b, off + fo, none⟩)) :: env) M) : PR P n all (⟨some d, .fieldAddr T x ff, y, p, f, none⟩ :: rest) Q env M := fun a w hs => by
  have h3 := hs.eval hx
  obtain ⟨F, hu, g, hg, rfl, rfl⟩ := fieldOff TT ht hf
  refine wpList_plain rfl fun K hK => wp_of_value (w' := w) (x := .pointer (some ⟨b, off + g.offset, none⟩)) ?_ (hK _ _ (h _ _ (hs.put hd _ hs.m)))
  simp [execOp, h3, Instr.fieldAt, Instr.sureAddr, run_underlying hu, hg, fieldPlace, run_sizeOf_of w (TT.ok g.type) hk, hz, Addr.add_lit]
/-- A call of a function that only computes. -/
theorem pr_pure {g : FuncId} {tys : Array TypeId} {args : List Operand} {vs : List Value} {avs : List AV} {r : AV} {v : Value} (hc : @Gives trivGlob P g avs r) (hx : args.map (pev env) = vs.map some) (ha : ∀ I τ ρ, RepAs I τ ρ 0 avs vs) (hr : ∀ I τ ρ u, RepA I τ ρ 0 r u → u = v)
    (hM : ∀ w w', FrameW [] w w' → M w → M w') (hd : d < n) (h : PR P n all rest Q ((d, v) :: env) M) : PR P n all (⟨some d, .call ⟨.value (.func g), args.toArray, tys⟩, y, p, f, none⟩ :: rest) Q env M := fun a w hs => by
  refine wpList_plain rfl fun K hK => ?_
  unfold Oper.wp
  have ev : args.map a.eval = vs := by
    have key : ∀ (l : List Operand) (vs : List Value), l.map (pev env) = vs.map some → l.map a.eval = vs := by
      intro l
      induction l with
      | nil => intro vs h; cases vs with | nil => rfl | cons _ _ => cases h
      | cons x l ih =>
        intro vs h
        cases vs with
        | nil => cases h
        | cons v vs =>
          simp only [List.map_cons, List.cons.injEq] at h ⊢
          exact ⟨hs.eval h.1, ih vs h.2⟩
    exact key args vs hx
  have e : (execOp a.eval ⟨some d, .call ⟨.value (.func g), args.toArray, tys⟩, y, p, f, none⟩).run P w = .ok (.enter g vs.toArray) w := by
    have := (@AC.call trivGlob _ _ _ _ _ hc) vs.toArray w
    simp only [execOp, resolve, Act.eval, Deferred.ofValue, pure_bind, invoke, Array.empty_append]
    have e2 : args.toArray.map (fun x => a.eval x) = vs.toArray := by rw [← ev]; simp
    have e3 : args.toArray.map a.eval = vs.toArray := e2
    rw [e3]
    simpa using this
  rw [e]
  have hg : @GivesR trivGlob P g avs (fun v => v = r) := @AC.mono trivGlob _ _ _ _ _ _ hc fun n v o t m h => h
  refine Calls.mono (@run_pure trivGlob _ _ _ _ _ _ trivial hg (ha (cellI w) (fun _ => none) (fun _ => 0))) fun e w' hh => ?_
  obtain ⟨x, r', I', τ', ρ', he, h5, g2, hb⟩ := hh
  subst he h5
  have hv := hr _ _ _ _ g2
  subst hv
  have hF : FrameW [] w w' := ⟨hb.size, fun b h _ => hb.block b h, hb.os, hb.tape, hb.output⟩
  exact hK _ _ (h _ _ (hs.put hd _ (hM w w' hF hs.m)))
end

/-! ### The memory that is written -/
mutual
theorem TreeV.lt {w : World} : ∀ {c : DV} {v : Value} {bs : List Nat}, TreeV w c v bs → ∀ b ∈ bs, b < w.heap.size
  | .int _ _, _, _, h, b, hb => by simp only [TreeV] at h; rw [h.2] at hb; simp at hb
  | .bool _, _, _, h, b, hb => by simp only [TreeV] at h; rw [h.2] at hb; simp at hb
  | .str _, _, _, h, b, hb => by simp only [TreeV] at h; rw [h.2] at hb; simp at hb
  | .pin _ _, _, _, h, _, _ => by simp only [TreeV] at h
  | .sl sz xs o, v, bs, h, x, hx => by
    simp only [TreeV] at h
    obtain ⟨a, cap, h1, h2, ⟨_, rfl⟩ | ⟨b, vs, bs', h3, rfl, h5, ⟨arr, T, h6, _⟩, h7, h8⟩⟩ := h
    · simp at hx
    · simp only [List.mem_cons] at hx
      rcases hx with rfl | hx
      · exact (Array.getElem?_eq_some_iff.1 h6).1
      · exact TreeLL.lt h8 x hx
theorem TreeLL.lt {w : World} : ∀ {c : List (List DV)} {v : List Value} {bs : List Nat}, TreeLL w c v bs → ∀ b ∈ bs, b < w.heap.size
  | [], _, _, h, b, hb => by simp only [TreeLL] at h; rw [h.2] at hb; simp at hb
  | x :: xs, v, bs, h, b, hb => by
    simp only [TreeLL] at h
    obtain ⟨v1, v2, b1, b2, rfl, rfl, hd, h1, h2⟩ := h
    rcases List.mem_append.1 hb with hb | hb
    · exact TreeL.lt h1 b hb
    · exact TreeLL.lt h2 b hb
theorem TreeL.lt {w : World} : ∀ {c : List DV} {v : List Value} {bs : List Nat}, TreeL w c v bs → ∀ b ∈ bs, b < w.heap.size
  | [], _, _, h, b, hb => by simp only [TreeL] at h; rw [h.2] at hb; simp at hb
  | x :: xs, v, bs, h, b, hb => by
    simp only [TreeL] at h
    obtain ⟨v1, v2, b1, b2, rfl, rfl, hd, h1, h2⟩ := h
    rcases List.mem_append.1 hb with hb | hb
    · exact TreeV.lt h1 b hb
    · exact TreeL.lt h2 b hb
end
def isSc : DV → Bool
  | .int _ _ => true
  | .bool _ => true
  | .str _ => true
  | _ => false
/-- A number, a truth or a text, and its value. -/
def scal : DV → Value → Prop
  | .int k n, v => v = .int k n
  | .bool b, v => v = .bool b
  | .str s, v => v = .string ⟨s.toArray⟩ ∧ s.length ≤ 9223372036854775807
  | _, _ => False
theorem scal_tree {w : World} {c : DV} {v : Value} (h : scal c v) : TreeV w c v [] := by
  cases c <;> simp_all [scal, TreeV]
theorem sc_nil {w : World} {c : DV} {v : Value} {bs : List Nat} (h : TreeV w c v bs) (hs : isSc c = true) : bs = [] := by
  cases c with
  | int k n => exact h.2
  | bool b => exact h.2
  | str s => exact h.2
  | _ => cases hs
theorem scal_cell {c : DV} {v : Value} (h : scal c v) : v.cells = #[v] ∧ v.oneCell' = true := by
  cases c with
  | int k n => cases h; exact ⟨rfl, rfl⟩
  | bool b => cases h; exact ⟨rfl, rfl⟩
  | str s => obtain ⟨rfl, _⟩ := h; exact ⟨rfl, rfl⟩
  | _ => exact h.elim
theorem treeL_len {w : World} : ∀ {ds : List DV} {vs : List Value} {bs : List Nat}, TreeL w ds vs bs → vs.length = ds.length
  | [], _, _, h => by simp only [TreeL] at h; rw [h.1]; rfl
  | x :: xs, v, bs, h => by
    simp only [TreeL] at h
    obtain ⟨v1, v2, b1, b2, rfl, rfl, hd, h1, h2⟩ := h
    simp [treeL_len h2]
theorem treeL_set {w : World} : ∀ {ds : List DV} {vs : List Value} {bs : List Nat} {j : Nat} {c0 c : DV} {v : Value}, TreeL w ds vs bs → ds[j]? = some c0 → isSc c0 = true → scal c v → TreeL w (ds.set j c) (vs.set j v) bs
  | [], _, _, _, _, _, _, _, h, _, _ => by simp at h
  | x :: xs, vs, bs, 0, c0, c, v, h, hj, hs, hc => by
    simp only [List.getElem?_cons_zero, Option.some.injEq] at hj
    subst hj
    simp only [TreeL] at h
    obtain ⟨v1, v2, b1, b2, rfl, rfl, hd, h1, h2⟩ := h
    have := sc_nil h1 hs
    subst this
    simp only [List.set_cons_zero, TreeL]
    exact ⟨v, v2, [], b2, rfl, rfl, hd, scal_tree hc, h2⟩
  | x :: xs, vs, bs, j + 1, c0, c, v, h, hj, hs, hc => by
    simp only [List.getElem?_cons_succ] at hj
    simp only [TreeL] at h
    obtain ⟨v1, v2, b1, b2, rfl, rfl, hd, h1, h2⟩ := h
    simp only [List.set_cons_succ, TreeL]
    exact ⟨v1, v2.set j v, b1, b2, rfl, rfl, hd, h1, treeL_set h2 hj hs hc⟩
/-- One cell of a tree, and what is left. -/
theorem treeL_at {w : World} : ∀ {ds : List DV} {vs : List Value} {bs : List Nat} {j : Nat} {c : DV}, TreeL w ds vs bs → ds[j]? = some c → ∃ x bd, vs[j]? = some x ∧ TreeV w c x bd ∧ (∀ b ∈ bd, b ∈ bs) ∧ ∀ w' c', TreeV w' c' x bd → FrameW bd w w' → TreeL w' (ds.set j c') vs bs
  | [], _, _, _, _, _, h => by simp at h
  | x :: xs, vs, bs, 0, c, h, hj => by
    simp only [List.getElem?_cons_zero, Option.some.injEq] at hj
    subst hj
    have h0 := h
    simp only [TreeL] at h
    obtain ⟨v1, v2, b1, b2, rfl, rfl, hd, h1, h2⟩ := h
    refine ⟨v1, b1, rfl, h1, fun b hb => by simp [hb], fun w' c' ht hF => ?_⟩
    simp only [List.set_cons_zero, TreeL]
    exact ⟨v1, v2, b1, b2, rfl, rfl, hd, ht, h2.frame fun b hb => hF.same b (h2.lt b hb) fun hin => hd b hin hb⟩
  | x :: xs, vs, bs, j + 1, c, h, hj => by
    simp only [List.getElem?_cons_succ] at hj
    simp only [TreeL] at h
    obtain ⟨v1, v2, b1, b2, rfl, rfl, hd, h1, h2⟩ := h
    obtain ⟨u, bd, k1, k2, k3, k4⟩ := treeL_at h2 hj
    refine ⟨u, bd, by simpa using k1, k2, fun b hb => by simp [k3 b hb], fun w' c' ht hF => ?_⟩
    simp only [List.set_cons_succ, TreeL]
    exact ⟨v1, v2, b1, b2, rfl, rfl, hd, h1.frame fun b hb => hF.same b (h1.lt b hb) fun hin => hd b hb (k3 b hin), k4 w' c' ht hF⟩

/-- Block b begins with these cells; the blocks F alone were written. -/
def MT (w0 : World) (F : List Nat) (b : Nat) (bs : List Nat) (ds : List DV) (w : World) : Prop := ∃ vs, cellsAt w b vs ∧ TreeL w ds vs bs ∧ b ∉ bs ∧ FrameW F w0 w
theorem MT.ext {w0 : World} {F : List Nat} {b : Nat} {bs : List Nat} {ds : List DV} {w w' : World} (hF : FrameW [] w w') (h : MT w0 F b bs ds w) : MT w0 F b bs ds w' := by
  obtain ⟨vs, h1, h2, h3, h4⟩ := h
  obtain ⟨arr, T, h5, _⟩ := id h1
  exact ⟨vs, h1.frame (hF.same b (Array.getElem?_eq_some_iff.1 h5).1 (by simp)), h2.frame fun x hx => hF.same x (h2.lt x hx) (by simp), h3, h4.trans (hF.mono (by simp))⟩
section
variable {P : Program} {n : Nat} {Q : Exit → Act → World → Prop} {env : List (Nat × Value)} {all : Array Oper} {rest : List Oper} {y : TypeId} {p : String} {f : Array Edge} {x x2 : Operand} {w0 : World} {F bs : List Nat} {b : Nat} {pre cs post : List DV}
theorem set_mid {pre cs post : List DV} {j : Nat} {c c0 : DV} (hj : cs[j]? = some c0) : (pre ++ (cs ++ post))[pre.length + j]? = some c0 ∧ (pre ++ (cs ++ post)).set (pre.length + j) c = pre ++ (cs.set j c ++ post) := by
  have hlt := (List.getElem?_eq_some_iff.1 hj).1
  constructor
  · rw [List.getElem?_append_right (by omega), List.getElem?_append_left (by omega)]
    simpa using hj
  · rw [List.set_append_right _ _ (by omega), List.set_append_left _ _ (by omega)]
    simp
theorem pr_store (TT : Tab P) {T off j : Nat} {c0 c : DV} {v : Value} (hx : pev env x = some (.pointer (some ⟨b, off, none⟩))) (hy : pev env x2 = some v) (hk : (TT.T T).t.known = true) (hsz : (TT.T T).size = 1) (hoff : off = pre.length + j) (hj : cs[j]? = some c0) (hc0 : isSc c0 = true) (hc : scal c v) (hbF : b ∈ F)
    (h : PR P n all rest Q env (MT w0 F b bs (pre ++ (cs.set j c ++ post)))) : PR P n all (⟨none, .store T x x2, y, p, f, none⟩ :: rest) Q env (MT w0 F b bs (pre ++ (cs ++ post))) := fun a w hs => by
  have h3 := hs.eval hx
  have h4 := hs.eval hy
  obtain ⟨vs, ⟨arr, T', h5, h6⟩, h7, h8, h9⟩ := hs.m
  obtain ⟨e1, e2⟩ := set_mid (pre := pre) (post := post) (c := c) hj
  have hlen := treeL_len h7
  have hlt : off < vs.length := by rw [hlen, hoff]; exact (List.getElem?_eq_some_iff.1 e1).1
  have hal : off < arr.size := by
    have := h6 off _ (List.getElem?_eq_getElem hlt)
    exact (Array.getElem?_eq_some_iff.1 this).1
  obtain ⟨hc1, hc2⟩ := scal_cell hc
  have hb0 : w.heap[b]? = some (.cells arr.toList.toArray T' (0, 0)) := by simpa using h5
  have hst := run_storeCells_at P b off T' v.cells.toList 0 arr.toList.toArray w hb0 (by rw [hc1]; simp; omega) (by rw [hc1]; intro u hu; simp at hu; subst hu; exact hc2)
  simp only [Nat.add_zero] at hst
  refine wpList_plain rfl fun K hK => wp_of_skip (w' := w.setRow b (arr.toList.take off ++ v.cells.toList ++ arr.toList.drop (off + v.cells.toList.length)).toArray) ?_ ?_
  · simp only [execOp, Instr.storeAt, h3, h4, Instr.sureAddr, storeVar, Sem.run_bind, Sem.run_pure, Result.andThen_ok, run_sizeOf_of w (TT.ok T) hk, hsz]
    rw [hc1] at hst ⊢
    simp at hst ⊢
    simp [hst]
  · generalize hw' : w.setRow b (arr.toList.take off ++ v.cells.toList ++ arr.toList.drop (off + v.cells.toList.length)).toArray = w'
    have hbk : w'.heap[b]? = some (.cells (arr.toList.take off ++ v.cells.toList ++ arr.toList.drop (off + v.cells.toList.length)).toArray T' (0, 0)) := by
      rw [← hw', setRow_heap w b arr.toList.toArray _ T' _ hb0]
    have hot : ∀ b', b' ≠ b → w'.heap[b']? = w.heap[b']? := fun b' hb' => by rw [← hw']; exact setRow_other w b b' _ hb'
    have hos : w'.os = w.os ∧ w'.tape = w.tape ∧ w'.output = w.output ∧ w'.heap.size = w.heap.size := by rw [← hw']; exact ⟨rfl, rfl, rfl, by simp⟩
    refine hK _ _ (h _ _ ⟨hs.sz, hs.df, hs.ev, vs.set off v, ⟨_, T', hbk, fun i u hu => ?_⟩, ?_, h8, h9.trans ⟨by rw [hos.2.2.2]; exact Nat.le_refl _, fun b' _ hn => hot b' fun e => hn (e ▸ hbF), hos.1, hos.2.1, hos.2.2.1⟩⟩)
    · rw [hc1]
      simp only [List.getElem?_toArray]
      rw [List.getElem?_set] at hu
      split at hu
      · rename_i e
        subst e
        simp only [hlt, if_true, Option.some.injEq] at hu
        subst hu
        rw [List.append_assoc, List.getElem?_append_right (by simp; omega)]
        have hz : off - (List.take off arr.toList).length = 0 := by simp; omega
        rw [hz]
        simp
      · rename_i e
        have h10 := h6 i u hu
        have hi : i < arr.size := (Array.getElem?_eq_some_iff.1 h10).1
        by_cases hio : i < off
        · rw [List.append_assoc, List.getElem?_append_left (by simp; omega), List.getElem?_take, if_pos hio]
          simpa using h10
        · rw [List.getElem?_append_right (by simp; omega), List.getElem?_drop]
          have : off + (#[v].toList).length + (i - (List.take off arr.toList ++ #[v].toList).length) = i := by simp; omega
          rw [this]
          simpa using h10
    · have h11 := treeL_set h7 e1 hc0 hc
      rw [e2] at h11
      rw [hoff]
      exact h11.frame fun b' hb' => hot b' fun e => h8 (e ▸ hb')
/-- Memory inside that memory is handed on. -/
theorem pr_inner (TT : Tab P) {T off j tl tm tk tr : Nat} {c c' : DV} {k k' : Int} {g : FuncId} {tys : Array TypeId} {y2 y3 : TypeId} {p2 p3 : String} {f2 f3 : Array Edge} (hm : MarkF P g (.d c) (.d c') k k') (hx : pev env x = some (.pointer (some ⟨b, off, none⟩))) (hkv : pev env (.tmp tk) = some (.int .i64 k)) (hk : (TT.T T).t.known = true) (hagg : (TT.T T).t.agg = false) (hsz : (TT.T T).size = 1) (hoff : off = pre.length + j) (hj : cs[j]? = some c) (hF : ∀ z ∈ bs, z ∈ F)
    (hb : tl < n ∧ tm < n ∧ tr < n) (hne : (offB [tl] tm && offB [tl] tk) = true)
    (h : PR P n all rest Q ((tr, .int .i64 k') :: env) (MT w0 F b bs (pre ++ (cs.set j c' ++ post)))) (hse : offB [tl, tm] tr = true) (hen : (env.all fun q => offB [tl, tm] q.1) = true) :
    PR P n all (⟨some tl, .load T x, y, p, f, none⟩ :: ⟨some tm, .move (.tmp tk), y2, p2, f2, none⟩ :: ⟨some tr, .call ⟨.value (.func g), #[.tmp tl, .tmp tm], tys⟩, y3, p3, f3, none⟩ :: rest) Q env (MT w0 F b bs (pre ++ (cs ++ post))) := fun a w hs => by
  have h3 := hs.eval hx
  obtain ⟨vs, ⟨arr, T', h5, h6⟩, h7, h8, h9⟩ := hs.m
  obtain ⟨e1, e2⟩ := set_mid (pre := pre) (post := post) (c := c') hj
  obtain ⟨u, bd, k1, k2, k3, k4⟩ := treeL_at h7 (by rw [← hoff] at e1; exact e1)
  have hcell : w.cell? ⟨b, off, none⟩ = some u := by simp only [World.cell?, h5]; simpa using h6 off u k1
  have hrun := run_loadVar_of (P := P) w (TT.ok T) hk ⟨b, off, none⟩ rfl [u] (by simp [hsz]) (fun _ => hsz) (fun i v hv => by
    cases i with
    | zero => simp at hv; subst hv; exact hcell
    | succ i => simp at hv)
  have hmk : mkC (TT.T T) [u] = u := by simp [mkC, hagg]
  rw [hmk] at hrun
  simp only [Bool.and_eq_true] at hne
  refine wpList_plain rfl fun K hK => wp_of_value (w' := w) (x := u) ?_ (hK _ _ ?_)
  · simp [execOp, h3, Instr.loadAt, Instr.sureAddr, hrun]
  clear hK K
  generalize ha1 : a.put (some tl) u = a1
  have s1 : a1.tmps.size = n := by rw [← ha1]; exact put_size hs.sz
  refine wpList_plain rfl fun K hK => wp_of_value (w' := w) (x := a1.eval (.tmp tk)) rfl (hK _ _ ?_)
  clear hK K
  generalize ha2 : a1.put (some tm) (a1.eval (.tmp tk)) = a2
  have s2 : a2.tmps.size = n := by rw [← ha2]; exact put_size s1
  have va : a2.tmps.getD tl undef = u := by
    rw [← ha2, put_ne s1 hb.2.1 (fun e => off_ne hne.1 (by simp) e.symm), ← ha1, put_at hs.sz hb.1]
  have vb : a2.tmps.getD tm undef = .int .i64 k := by
    rw [← ha2, put_at s1 hb.2.1]
    show a1.tmps.getD tk undef = _
    rw [← ha1, put_ne hs.sz hb.1 (off_ne hne.2 (by simp))]
    exact hs.ev tk _ hkv
  refine wpList_plain rfl fun K hK => ?_
  unfold Oper.wp
  have e : (execOp a2.eval ⟨some tr, .call ⟨.value (.func g), #[.tmp tl, .tmp tm], tys⟩, y3, p3, f3, none⟩).run P w = .ok (.enter g [u, Value.int .i64 k].toArray) w := by
    have := hm.1 [u, Value.int .i64 k].toArray w
    simp only [execOp, resolve, Act.eval, Deferred.ofValue, pure_bind, invoke, Array.empty_append]
    simpa [Act.eval, va, vb] using this
  rw [e]
  refine Calls.mono (hm.2 w u bd k2) fun e w' ⟨q1, q2, q3⟩ => ?_
  subst q1
  have hbn : b ∉ bd := fun hin => h8 (k3 b hin)
  refine hK _ _ (h _ _ ⟨put_size s2, ?_, fun t v ht => ?_, vs, ⟨arr, T', ?_, h6⟩, ?_, h8, h9.trans (q3.mono fun z hz => hF z (k3 z hz))⟩)
  · exact put_defers (by rw [← ha2]; exact put_defers (by rw [← ha1]; exact put_defers hs.df))
  · simp only [getP] at ht
    split at ht
    · rename_i e; subst e; cases ht; exact put_at s2 hb.2.2
    · rename_i e
      have hmem : ∀ (l : List (Nat × Value)), (l.all fun q => offB [tl, tm] q.1) = true → getP l t = some v → offB [tl, tm] t = true := by
        intro l
        induction l with
        | nil => intro _ h; cases h
        | cons q l ih =>
          intro hl hg
          simp only [List.all_cons, Bool.and_eq_true] at hl
          simp only [getP] at hg
          split at hg
          · rename_i e; rw [e]; exact hl.1
          · exact ih hl.2 hg
      have ho := hmem env hen ht
      rw [put_ne s2 hb.2.2 e, ← ha2, put_ne s1 hb.2.1 (off_ne ho (by simp)), ← ha1, put_ne hs.sz hb.1 (off_ne ho (by simp))]
      exact hs.ev t v ht
  · rw [q3.same b (Array.getElem?_eq_some_iff.1 h5).1 hbn]; exact h5
  · have := k4 w' c' q2 q3
    rw [hoff, e2] at this
    exact this
end

/-- The end of such a function. -/
def MQ (rt : Nat) (k' : Int) (Φ : World → Prop) (e : Exit) (a : Act) (w : World) : Prop := (e = .normal ∨ e = .ret) ∧ a.tmps.getD rt undef = .int .i64 k' ∧ a.defers = [] ∧ Φ w
theorem mark_of_body {P : Program} {g : FuncId} {fn : Func} {c : Code} {rt n : Nat} {d d' : AV} {k k' : Int} (hcall : CallOK P g) (hf : P.funcs[g]? = some fn) (hb : fn.body = some c) (hres : fn.results = #[.tmp rt]) (hnt : fn.ntmps = n) (hn : 2 ≤ n)
    (h : ∀ (w0 : World) (v : Value) (bs : List Nat), TreeA w0 d v bs → PW P n c (MQ rt k' fun w' => TreeA w' d' v bs ∧ FrameW bs w0 w') [(0, v), (1, .int .i64 k)] (fun w => w = w0)) : MarkF P g d d' k k' := by
  subst hnt
  refine ⟨hcall, fun w v bs ht => calls_of_wp hf hb ?_⟩
  have hsz : ([v, Value.int .i64 k].toArray ++ Array.replicate (fn.ntmps - [v, Value.int .i64 k].toArray.size) undef).size = fn.ntmps := by simp; omega
  refine Go.wp_mono (h w v bs ht _ w ⟨hsz, rfl, fun t u hu => ?_, rfl⟩) fun e a' w' ⟨he, h1, h2, h3⟩ => ?_
  · simp only [getP] at hu
    split at hu
    · rename_i e; subst e; cases hu
      simp only [Array.getD_eq_getD_getElem?]
      rw [Array.getElem?_append_left (by simp)]; simp
    · split at hu
      · rename_i e; subst e; cases hu
        simp only [Array.getD_eq_getD_getElem?]
        rw [Array.getElem?_append_left (by simp)]; simp
      · cases hu
  · have hr : (results fn a'.tmps).run P w' = .ok (.int .i64 k') w' := by
      have h1' : a'.tmps[rt]?.getD undef = .int .i64 k' := by simpa [Array.getD_eq_getD_getElem?] using h1
      unfold results
      rw [hres]
      simp [h1']
    have : bodyPost P fn (fun e w' => e = .returned (.int .i64 k') ∧ TreeA w' d' v bs ∧ FrameW bs w w') .ret a' w' := ⟨h2, _, hr, rfl, h3⟩
    rcases he with rfl | rfl <;> exact this

/-! ### Lists that are marked one element after the other -/
def mkL {α : Type} (f : α → Int → α) (c : α → Int) : List α → Int → List α
  | [], _ => []
  | x :: l, k => f x k :: mkL f c l (k + c x)
def cnL {α : Type} (c : α → Int) : List α → Int
  | [] => 0
  | x :: l => c x + cnL c l
theorem cnL_app {α : Type} (c : α → Int) : ∀ (l m : List α), cnL c (l ++ m) = cnL c l + cnL c m
  | [], m => by simp [cnL]
  | x :: l, m => by simp [cnL, cnL_app c l m]; omega
theorem cnL_nn {α : Type} (c : α → Int) (hc : ∀ x, 0 ≤ c x) : ∀ (l : List α), 0 ≤ cnL c l
  | [] => by simp [cnL]
  | x :: l => by have := cnL_nn c hc l; have := hc x; simp only [cnL]; omega
theorem mkL_len {α : Type} (f : α → Int → α) (c : α → Int) : ∀ (l : List α) (k : Int), (mkL f c l k).length = l.length
  | [], _ => rfl
  | x :: l, k => by simp [mkL, mkL_len f c l]
theorem mkL_app {α : Type} (f : α → Int → α) (c : α → Int) : ∀ (l m : List α) (k : Int), mkL f c (l ++ m) k = mkL f c l k ++ mkL f c m (k + cnL c l)
  | [], m, k => by simp [mkL, cnL]
  | x :: l, m, k => by simp [mkL, cnL, mkL_app f c l m, Int.add_assoc]
/-- What the cells hold when the first i elements are done. -/
def mixD {α : Type} (enc : α → List DV) (f : α → Int → α) (c : α → Int) (l : List α) (k : Int) (i : Nat) : List DV := ((mkL f c (l.take i) k).map enc).flatten ++ ((l.drop i).map enc).flatten
theorem mixD_0 {α : Type} (enc : α → List DV) (f : α → Int → α) (c : α → Int) (l : List α) (k : Int) : mixD enc f c l k 0 = (l.map enc).flatten := by simp [mixD, mkL]
theorem mixD_n {α : Type} (enc : α → List DV) (f : α → Int → α) (c : α → Int) (l : List α) (k : Int) : mixD enc f c l k l.length = ((mkL f c l k).map enc).flatten := by simp [mixD]
theorem flat_map_len {α : Type} {enc : α → List DV} {sz : Nat} (h : ∀ x, (enc x).length = sz) : ∀ l : List α, ((l.map enc).flatten).length = l.length * sz
  | [] => by simp
  | x :: l => by simp [flat_map_len h l, h x, Nat.add_mul]; omega
/-- Element i, and what it becomes. -/
theorem mixD_at {α : Type} (enc : α → List DV) (f : α → Int → α) (c : α → Int) {sz : Nat} (hsz : ∀ x, (enc x).length = sz) {l : List α} {i : Nat} {x : α} {rest : List α} (k : Int) (h : l.drop i = x :: rest) (hi : i ≤ l.length) :
    ∃ pre post : List DV, pre.length = i * sz ∧ mixD enc f c l k i = pre ++ (enc x ++ post) ∧ mixD enc f c l k (i + 1) = pre ++ (enc (f x (k + cnL c (l.take i))) ++ post) ∧ cnL c (l.take (i + 1)) = cnL c (l.take i) + c x := by
  have hd : l.drop (i + 1) = rest := by
    have : l.drop (i + 1) = (l.drop i).drop 1 := by rw [List.drop_drop]
    rw [this, h]; rfl
  have hx : l[i]? = some x := by
    have : (l.drop i)[0]? = some x := by rw [h]; rfl
    simpa using this
  have ht : l.take (i + 1) = l.take i ++ [x] := by rw [List.take_add_one, hx]; rfl
  refine ⟨((mkL f c (l.take i) k).map enc).flatten, (rest.map enc).flatten, ?_, ?_, ?_, ?_⟩
  · rw [flat_map_len hsz, mkL_len, List.length_take, Nat.min_eq_left hi]
  · simp [mixD, h]
  · rw [mixD, ht, mkL_app, hd]
    simp [mkL]
  · rw [ht, cnL_app]; simp [cnL]
end Go.AL

namespace Go.AL
open Go
set_option linter.unusedSectionVars false
variable [Inhabited Glob] [Inhabited NoLend]
set_option linter.unusedSimpArgs false
set_option linter.unusedVariables false
/-! ### Results that own their memory -/
def ownA : AV → List Nat → Prop
  | .d c, t => ownD c t
  | .agg cs, t => ownL cs t
  | .tup [.d c, .d (.bool _)], t => ownD c t
  | .tup [.agg cs, .d (.bool _)], t => ownL cs t
  | _, _ => False
/-- What a function hands back: this value, in memory of its own. -/
def OwnR (r : AV) (n : Nat) (v : AV) (o : List AO) (t : List Nat) (m : Nat) : Prop := o = [] ∧ ownA v t ∧ (∀ x ∈ t, n ≤ x ∧ x < m) ∧ v.erR = r ∧ n ≤ m
theorem own_tupa {v : AV} {t : List Nat} {c : List DV} {b : Bool} (h : ownA v t) (he : v.erR = .tup [.agg c, .d (.bool b)]) : ∃ D, v = .tup [.agg D, .d (.bool b)] ∧ erL D = c ∧ ownL D t ∧ D.length = c.length := by
  unfold ownA at h
  split at h
  · simp [AV.erR, AV.er] at he
  · simp [AV.erR, AV.er] at he
  · simp [AV.erR, AV.er] at he
  · rename_i x y
    simp only [AV.erR, List.map_cons, List.map_nil, AV.er, DV.er, AV.tup.injEq, List.cons.injEq, AV.d.injEq, AV.agg.injEq, DV.bool.injEq, and_true] at he
    exact ⟨x, by rw [he.2], he.1, h, by rw [← he.1, erL_eq]; simp⟩
  · exact h.elim
/-- A slice that grows: it has nothing, or a token of its own. -/
def ownS (own : Own) (n nt : Nat) (e : Prop) : Prop := (own = .full ∧ e) ∨ ∃ t, own = .tok t ∧ n ≤ t ∧ t < nt
theorem ownS_lt {own : Own} {n nt : Nat} {e : Prop} (h : ownS own n nt e) : ownLt own nt := by
  rcases h with ⟨rfl, _⟩ | ⟨t, rfl, _, h⟩
  · trivial
  · exact h
theorem ownS_mono {own : Own} {n nt nt' : Nat} {e e' : Prop} (h : ownS own n nt e) (hn : nt ≤ nt') (he : e → e') : ownS own n nt' e' := by
  rcases h with ⟨h, h1⟩ | ⟨t, h, h1, h2⟩
  · exact .inl ⟨h, he h1⟩
  · exact .inr ⟨t, h, h1, by omega⟩
theorem ownS_tok {n nt : Nat} {e : Prop} (h : n ≤ nt) : ownS (.tok nt) n (nt + 1) e := .inr ⟨nt, rfl, h, by omega⟩
theorem cnL_split {α : Type} (c : α → Int) {l : List α} {i : Nat} {x : α} {rest : List α} (h : l.drop i = x :: rest) : cnL c l = cnL c (l.take i) + (c x + cnL c rest) := by
  have : cnL c l = cnL c (l.take i ++ l.drop i) := by rw [List.take_append_drop]
  rw [this, cnL_app, h, cnL]
theorem mrep1 (k : Int) : ∀ (I : IH) (τ : TH) (ρ : Nat → Nat), RepAs I τ ρ 0 [.d (.int .i64 k)] [.int .i64 k] := fun _ _ _ => ⟨rfl, fun i v x hv hx => by
  cases i with
  | zero => simp at hv hx; subst hv hx; exact .d _ _ (.int _ _)
  | succ i => simp at hv⟩
theorem mrepS (s : List UInt8) : ∀ (I : IH) (τ : TH) (ρ : Nat → Nat) (u : Value), RepA I τ ρ 0 (.d (.str s)) u → u = .string ⟨s.toArray⟩ := fun _ _ _ _ h => (rep_str h).1
end Go.AL
namespace Go.AL
open Go
set_option linter.unusedSectionVars false
variable [Inhabited Glob] [Inhabited NoLend]
/-- A walk that is to wait here. -/
structure Stop (p : Prop) : Prop where
  out : p
theorem Stop.go {P : Program} {E : Ent} {c : Code} {Q : Exit → AS → Prop} {s : AS} (h : Stop (AWp P E c Q s)) : AWp P E c Q s := h.out
theorem QB_ret {rt : Nat} {s : AS} (h : getE s.env rt = .d (.bool true)) : QB rt .ret s := h
end Go.AL
namespace Go.AL
open Go
set_option linter.unusedSectionVars false
variable [Inhabited Glob] [Inhabited NoLend]
theorem ownD_sc {c : DV} (h : isSc c = true) : ownD c [] := by
  cases c <;> simp_all [isSc, ownD]
end Go.AL
namespace Go.AL
open Go
set_option linter.unusedSectionVars false
variable [Inhabited Glob] [Inhabited NoLend]
end Go.AL
namespace Go.AL
open Go
set_option linter.unusedSectionVars false
variable [Inhabited Glob] [Inhabited NoLend]
def MTV (w0 : World) (F : List Nat) (b : Nat) (bs : List Nat) (vs : List Value) (ds : List DV) (w : World) : Prop := cellsAt w b vs ∧ TreeL w ds vs bs ∧ b ∉ bs ∧ FrameW F w0 w
section
variable {P : Program} {n : Nat} {Q : Exit → Act → World → Prop} {env : List (Nat × Value)} {all : Array Oper} {rest : List Oper} {y : TypeId} {p : String} {f : Array Edge} {x x2 : Operand} {w0 : World} {F bs : List Nat} {b : Nat} {pre cs post : List DV}
/-- Memory inside that memory is handed on. -/
theorem pr_innerV {vs : List Value} (TT : Tab P) {T off j tl tm tk tr : Nat} {c c' : DV} {k k' : Int} {g : FuncId} {tys : Array TypeId} {y2 y3 : TypeId} {p2 p3 : String} {f2 f3 : Array Edge} (hm : MarkF P g (.d c) (.d c') k k') (hx : pev env x = some (.pointer (some ⟨b, off, none⟩))) (hkv : pev env (.tmp tk) = some (.int .i64 k)) (hk : (TT.T T).t.known = true) (hagg : (TT.T T).t.agg = false) (hsz : (TT.T T).size = 1) (hoff : off = pre.length + j) (hj : cs[j]? = some c) (hF : ∀ z ∈ bs, z ∈ F)
    (hb : tl < n ∧ tm < n ∧ tr < n) (hne : (offB [tl] tm && offB [tl] tk) = true)
    (h : PR P n all rest Q ((tr, .int .i64 k') :: env) (MTV w0 F b bs vs (pre ++ (cs.set j c' ++ post)))) (hse : offB [tl, tm] tr = true) (hen : (env.all fun q => offB [tl, tm] q.1) = true) :
    PR P n all (⟨some tl, .load T x, y, p, f, none⟩ :: ⟨some tm, .move (.tmp tk), y2, p2, f2, none⟩ :: ⟨some tr, .call ⟨.value (.func g), #[.tmp tl, .tmp tm], tys⟩, y3, p3, f3, none⟩ :: rest) Q env (MTV w0 F b bs vs (pre ++ (cs ++ post))) := fun a w hs => by
  have h3 := hs.eval hx
  obtain ⟨⟨arr, T', h5, h6⟩, h7, h8, h9⟩ := hs.m
  obtain ⟨e1, e2⟩ := set_mid (pre := pre) (post := post) (c := c') hj
  obtain ⟨u, bd, k1, k2, k3, k4⟩ := treeL_at h7 (by rw [← hoff] at e1; exact e1)
  have hcell : w.cell? ⟨b, off, none⟩ = some u := by simp only [World.cell?, h5]; simpa using h6 off u k1
  have hrun := run_loadVar_of (P := P) w (TT.ok T) hk ⟨b, off, none⟩ rfl [u] (by simp [hsz]) (fun _ => hsz) (fun i v hv => by
    cases i with
    | zero => simp at hv; subst hv; exact hcell
    | succ i => simp at hv)
  have hmk : mkC (TT.T T) [u] = u := by simp [mkC, hagg]
  rw [hmk] at hrun
  simp only [Bool.and_eq_true] at hne
  refine wpList_plain rfl fun K hK => wp_of_value (w' := w) (x := u) ?_ (hK _ _ ?_)
  · simp [execOp, h3, Instr.loadAt, Instr.sureAddr, hrun]
  clear hK K
  generalize ha1 : a.put (some tl) u = a1
  have s1 : a1.tmps.size = n := by rw [← ha1]; exact put_size hs.sz
  refine wpList_plain rfl fun K hK => wp_of_value (w' := w) (x := a1.eval (.tmp tk)) rfl (hK _ _ ?_)
  clear hK K
  generalize ha2 : a1.put (some tm) (a1.eval (.tmp tk)) = a2
  have s2 : a2.tmps.size = n := by rw [← ha2]; exact put_size s1
  have va : a2.tmps.getD tl undef = u := by
    rw [← ha2, put_ne s1 hb.2.1 (fun e => off_ne hne.1 (by simp) e.symm), ← ha1, put_at hs.sz hb.1]
  have vb : a2.tmps.getD tm undef = .int .i64 k := by
    rw [← ha2, put_at s1 hb.2.1]
    show a1.tmps.getD tk undef = _
    rw [← ha1, put_ne hs.sz hb.1 (off_ne hne.2 (by simp))]
    exact hs.ev tk _ hkv
  refine wpList_plain rfl fun K hK => ?_
  unfold Oper.wp
  have e : (execOp a2.eval ⟨some tr, .call ⟨.value (.func g), #[.tmp tl, .tmp tm], tys⟩, y3, p3, f3, none⟩).run P w = .ok (.enter g [u, Value.int .i64 k].toArray) w := by
    have := hm.1 [u, Value.int .i64 k].toArray w
    simp only [execOp, resolve, Act.eval, Deferred.ofValue, pure_bind, invoke, Array.empty_append]
    simpa [Act.eval, va, vb] using this
  rw [e]
  refine Calls.mono (hm.2 w u bd k2) fun e w' ⟨q1, q2, q3⟩ => ?_
  subst q1
  have hbn : b ∉ bd := fun hin => h8 (k3 b hin)
  refine hK _ _ (h _ _ ⟨put_size s2, ?_, fun t v ht => ?_, ⟨arr, T', ?_, h6⟩, ?_, h8, h9.trans (q3.mono fun z hz => hF z (k3 z hz))⟩)
  · exact put_defers (by rw [← ha2]; exact put_defers (by rw [← ha1]; exact put_defers hs.df))
  · simp only [getP] at ht
    split at ht
    · rename_i e; subst e; cases ht; exact put_at s2 hb.2.2
    · rename_i e
      have hmem : ∀ (l : List (Nat × Value)), (l.all fun q => offB [tl, tm] q.1) = true → getP l t = some v → offB [tl, tm] t = true := by
        intro l
        induction l with
        | nil => intro _ h; cases h
        | cons q l ih =>
          intro hl hg
          simp only [List.all_cons, Bool.and_eq_true] at hl
          simp only [getP] at hg
          split at hg
          · rename_i e; rw [e]; exact hl.1
          · exact ih hl.2 hg
      have ho := hmem env hen ht
      rw [put_ne s2 hb.2.2 e, ← ha2, put_ne s1 hb.2.1 (off_ne ho (by simp)), ← ha1, put_ne hs.sz hb.1 (off_ne ho (by simp))]
      exact hs.ev t v ht
  · rw [q3.same b (Array.getElem?_eq_some_iff.1 h5).1 hbn]; exact h5
  · have := k4 w' c' q2 q3
    rw [hoff, e2] at this
    exact this
end
/-- A variable of the call's own, filled with what was handed in. -/
theorem pr_box {P : Program} {n : Nat} {Q : Exit → Act → World → Prop} {env : List (Nat × Value)} {all : Array Oper} {rest : List Oper} {y : TypeId} {p : String} {f : Array Edge} {d : Nat} {x : Operand} {T : TypeId} {w0 : World} {ds : List DV} {vs : List Value} {bs : List Nat}
    (hx : pev env x = some (.agg vs.toArray)) (ht : TreeL w0 ds vs bs) (hd : d < n) (h : ∀ b, PR P n all rest Q ((d, .pointer (some ⟨b, 0, none⟩)) :: env) (MTV w0 bs b bs vs ([] ++ (ds ++ [])))) :
    PR P n all (⟨some d, .box T x, y, p, f, none⟩ :: rest) Q env (fun w => w = w0) := fun a w hs => by
  have h3 := hs.eval hx
  obtain rfl := hs.m
  refine wpList_plain rfl fun K hK => wp_of_value (w' := w.alloc (.cells vs.toArray T)) (x := .pointer (some ⟨w.heap.size, 0, none⟩)) ?_ (hK _ _ (h w.heap.size _ _ (hs.put hd _ ?_)))
  · have e : (Value.agg vs.toArray).cells = vs.toArray := rfl
    simp [execOp, h3, Instr.box, newVar, newRow, e]
  · have hnew : (w.alloc (.cells vs.toArray T)).heap[w.heap.size]? = some (.cells vs.toArray T (0, 0)) := halloc_new w _
    have hold : ∀ b, b < w.heap.size → (w.alloc (.cells vs.toArray T)).heap[b]? = w.heap[b]? := fun b hb => halloc_old w _ b hb
    refine ⟨⟨vs.toArray, T, hnew, fun j v hv => by simpa using hv⟩, ?_, fun hin => by have := ht.lt _ hin; omega, ⟨?_, fun b hb _ => hold b hb, rfl, rfl, rfl⟩⟩
    · simp only [List.nil_append, List.append_nil]
      exact ht.frame fun b hb => hold b (ht.lt b hb)
    · show w.heap.size ≤ (w.heap.push _).size
      simp
end Go.AL
namespace Go.AL
open Go
set_option linter.unusedSectionVars false
variable [Inhabited Glob] [Inhabited NoLend]
theorem pw_seqrK {P : Program} {n : Nat} {Q : Exit → Act → World → Prop} {env : List (Nat × Value)} {M : World → Prop} {id : Nat} {l : List Oper} {y : Code}
    (h : ∀ K : Exit → Act → World → Prop, (∀ env M, PW P n y Q env M → PQ n K .normal env M) → PR P n l.toArray l K env M) : PW P n (.seq (.region id l.toArray false) y) Q env M :=
  pw_seqr (h _ fun _ _ h => h)
theorem pw_regionK {P : Program} {n : Nat} {Q : Exit → Act → World → Prop} {env : List (Nat × Value)} {M : World → Prop} {id : Nat} {l : List Oper}
    (h : ∀ K : Exit → Act → World → Prop, (∀ env M, PQ n Q .normal env M → PQ n K .normal env M) → PR P n l.toArray l K env M) : PW P n (.region id l.toArray false) Q env M :=
  pw_region (h _ fun _ _ h => h)
end Go.AL
namespace Go.AL
open Go
set_option linter.unusedSectionVars false
variable [Inhabited Glob] [Inhabited NoLend]
theorem ownLL_snoc {y : List DV} {u : List Nat} : ∀ {xs : List (List DV)} {t : List Nat}, ownLL xs t → ownL y u → Disj t u → ownLL (xs ++ [y]) (t ++ u)
  | [], t, h, hy, hd => by
    simp only [ownLL] at h
    subst h
    simp only [List.nil_append, ownLL]
    exact ⟨u, [], by simp, fun x _ hx => by simp at hx, hy, rfl⟩
  | x :: xs, t, h, hy, hd => by
    simp only [ownLL] at h
    obtain ⟨t1, t2, rfl, h1, h2, h3⟩ := h
    simp only [List.cons_append, ownLL]
    exact ⟨t1, t2 ++ u, by simp, app_disj' h1 (disj_app hd).1, h2, ownLL_snoc h3 hy (disj_app hd).2⟩
theorem ownL_one {a : DV} {t : List Nat} (h : ownD a t) : ownL [a] t := by
  simp only [ownL]
  exact ⟨t, [], by simp, fun x _ hx => by simp at hx, h, rfl⟩
theorem ownL_cons {a : DV} {t u : List Nat} {cs : List DV} (h : ownD a t) (hc : ownL cs u) (hd : Disj t u) : ownL (a :: cs) (t ++ u) := by
  simp only [ownL]
  exact ⟨t, u, rfl, hd, h, hc⟩
theorem ownL_skip {a : DV} {t : List Nat} {cs : List DV} (h : isSc a = true) (hc : ownL cs t) : ownL (a :: cs) t := ownL_cons (t := []) (ownD_sc h) hc fun x hx => by simp at hx
theorem own_head {cs : List DV} {t : List Nat} {c0 : DV} {rest : List DV} (h : erL cs = c0 :: rest) (hs : isSc c0 = true) (ho : ownL cs t) : ∃ cs', cs = c0 :: cs' ∧ erL cs' = rest ∧ ownL cs' t := by
  cases cs with
  | nil => simp [erL] at h
  | cons c cs =>
    simp only [erL, List.cons.injEq] at h
    simp only [ownL] at ho
    obtain ⟨t1, t2, rfl, _, h1, h2⟩ := ho
    cases c with
    | int k n => simp only [ownD] at h1; subst h1; exact ⟨cs, by rw [← h.1]; rfl, h.2, h2⟩
    | bool b => simp only [ownD] at h1; subst h1; exact ⟨cs, by rw [← h.1]; rfl, h.2, h2⟩
    | str s => simp only [ownD] at h1; subst h1; exact ⟨cs, by rw [← h.1]; rfl, h.2, h2⟩
    | sl sz xs o => rw [← h.1] at hs; simp [DV.er, isSc] at hs
    | pin d v => simp only [ownD] at h1
theorem own_last {cs : List DV} {t : List Nat} {d : DV} (h : erL cs = [d]) (ho : ownL cs t) : ∃ D, cs = [D] ∧ D.er = d ∧ ownD D t := by
  cases cs with
  | nil => simp [erL] at h
  | cons c cs =>
    cases cs with
    | cons _ _ => simp [erL] at h
    | nil =>
      simp only [erL, List.cons.injEq, and_true] at h
      simp only [ownL] at ho
      obtain ⟨t1, t2, rfl, _, h1, rfl⟩ := ho
      exact ⟨c, rfl, h, by simpa using h1⟩
end Go.AL
namespace Go.AL
open Go
set_option linter.unusedSectionVars false
variable [Inhabited Glob] [Inhabited NoLend]
end Go.AL

set_option linter.unusedSimpArgs false
set_option linter.unusedVariables false
namespace Go.AL
open Go
set_option linter.unusedSectionVars false
variable [Inhabited Glob] [Inhabited NoLend]
end Go.AL
namespace Go.AL
open Go
set_option linter.unusedSectionVars false
variable [Inhabited Glob] [Inhabited NoLend]
/-- A slice that grows by elements that own their memory. -/
def ownG (X : List (List DV)) (us : List Nat) (own : Own) (n nt : Nat) : Prop := ownLL X us ∧ (∀ t ∈ us, n ≤ t ∧ t < nt) ∧ ownS own n nt (X = []) ∧ (∀ t ∈ tkOf own, t ∉ us) ∧ n ≤ nt
theorem ownG_0 {n nt : Nat} (h : n ≤ nt) : ownG [] [] .full n nt := ⟨by simp [ownLL], by simp, .inl ⟨rfl, rfl⟩, by simp [tkOf], h⟩
theorem ownG_mono {X : List (List DV)} {us : List Nat} {own : Own} {n nt nt' : Nat} (h : ownG X us own n nt) (hn : nt ≤ nt') : ownG X us own n nt' :=
  ⟨h.1, fun t ht => ⟨(h.2.1 t ht).1, by have := (h.2.1 t ht).2; omega⟩, ownS_mono h.2.2.1 hn id, h.2.2.2.1, by have := h.2.2.2.2; omega⟩
theorem ownG_push {X : List (List DV)} {us t1 : List Nat} {own : Own} {n nt m : Nat} {c : List DV} (h : ownG X us own n nt) (hc : ownL c t1) (h1 : ∀ t ∈ t1, nt ≤ t ∧ t < m) (hm : nt ≤ m) : ownG (X ++ [c]) (us ++ t1) (.tok m) n (m + 1) := by
  obtain ⟨g1, g2, g3, g4, g5⟩ := h
  refine ⟨ownLL_snoc g1 hc fun x hx hy => by have := (g2 x hx).2; have := (h1 x hy).1; omega, fun t ht => ?_, ownS_tok (by omega), fun t ht hin => ?_, by omega⟩
  · rcases List.mem_append.1 ht with h | h
    · have := g2 t h; omega
    · have := h1 t h; omega
  · simp [tkOf] at ht
    subst ht
    rcases List.mem_append.1 hin with h | h
    · have := (g2 t h).2; omega
    · have := (h1 t h).2; omega
theorem ownG_own {X : List (List DV)} {us : List Nat} {own : Own} {n nt sz : Nat} (h : ownG X us own n nt) : ownD (.sl sz X own) (tkOf own ++ us) ∧ ∀ t ∈ tkOf own ++ us, n ≤ t ∧ t < nt := by
  obtain ⟨g1, g2, g3, g4, g5⟩ := h
  rcases g3 with ⟨rfl, rfl⟩ | ⟨t, rfl, g6, g7⟩
  · simp only [ownLL] at g1
    subst g1
    exact ⟨by simp [ownD, tkOf], by simp [tkOf]⟩
  · refine ⟨?_, fun x hx => ?_⟩
    · simp only [ownD, tkOf]
      exact .inr ⟨t, us, rfl, rfl, g4 t (by simp [tkOf]), g1⟩
    · simp [tkOf] at hx
      rcases hx with rfl | hx
      · exact ⟨g6, g7⟩
      · exact g2 x hx
end Go.AL

namespace Go.AL
open Go
set_option linter.unusedSectionVars false
variable [Inhabited Glob] [Inhabited NoLend]
set_option linter.unusedSimpArgs false
set_option linter.unusedVariables false
section
variable {P : Program} {n : Nat} {Q : Exit → Act → World → Prop} {env : List (Nat × Value)} {all : Array Oper} {rest : List Oper} {y : TypeId} {p : String} {f : Array Edge} {x x2 : Operand} {w0 : World} {F bs : List Nat} {b : Nat} {pre cs post : List DV}
/-- A struct inside that memory is handed on. -/
theorem pr_innerA {vs : List Value} (TT : Tab P) {T off tl tm tk tr : Nat} {c1 c2 c2' c3 : List DV} {k k' : Int} {g : FuncId} {tys : Array TypeId} {y2 y3 : TypeId} {p2 p3 : String} {f2 f3 : Array Edge} (hm : MarkF P g (.agg c2) (.agg c2') k k') (hx : pev env x = some (.pointer (some ⟨b, off, none⟩))) (hkv : pev env (.tmp tk) = some (.int .i64 k)) (hk : (TT.T T).t.known = true) (hagg : (TT.T T).t.agg = true) (hsz : (TT.T T).size = c2.length) (hoff : off = c1.length) (hF : ∀ z ∈ bs, z ∈ F)
    (hb : tl < n ∧ tm < n ∧ tr < n) (hne : (offB [tl] tm && offB [tl] tk) = true)
    (h : PR P n all rest Q ((tr, .int .i64 k') :: env) (MTV w0 F b bs vs (c1 ++ (c2' ++ c3)))) (hse : offB [tl, tm] tr = true) (hen : (env.all fun q => offB [tl, tm] q.1) = true) :
    PR P n all (⟨some tl, .load T x, y, p, f, none⟩ :: ⟨some tm, .move (.tmp tk), y2, p2, f2, none⟩ :: ⟨some tr, .call ⟨.value (.func g), #[.tmp tl, .tmp tm], tys⟩, y3, p3, f3, none⟩ :: rest) Q env (MTV w0 F b bs vs (c1 ++ (c2 ++ c3))) := fun a w hs => by
  have h3 := hs.eval hx
  obtain ⟨⟨arr, T', h5, h6⟩, h7, h8, h9⟩ := hs.m
  obtain ⟨v1, v23, b1, b23, rfl, rfl, dd1, g1, g23⟩ := treeL_app.1 h7
  obtain ⟨v2, v3, b2, b3, rfl, rfl, dd2, g2, g3⟩ := treeL_app.1 g23
  have hl1 := treeL_len g1
  have hl2 := treeL_len g2
  have hrun := run_loadVar_of (P := P) w (TT.ok T) hk ⟨b, off, none⟩ rfl v2 (by rw [hl2, hsz]) (fun hf => by rw [hagg] at hf; cases hf) (fun i v hv => by
    have hi : (v1 ++ (v2 ++ v3))[off + i]? = some v := by
      have hlt := (List.getElem?_eq_some_iff.1 hv).1
      rw [List.getElem?_append_right (by omega), List.getElem?_append_left (by omega)]
      rw [show off + i - v1.length = i by omega]
      exact hv
    simp only [World.cell?, h5]
    simpa using h6 _ _ hi)
  have hmk : mkC (TT.T T) v2 = .agg v2.toArray := by simp [mkC, hagg]
  rw [hmk] at hrun
  simp only [Bool.and_eq_true] at hne
  refine wpList_plain rfl fun K hK => wp_of_value (w' := w) (x := .agg v2.toArray) ?_ (hK _ _ ?_)
  · simp [execOp, h3, Instr.loadAt, Instr.sureAddr, hrun]
  clear hK K
  generalize ha1 : a.put (some tl) (.agg v2.toArray) = a1
  have s1 : a1.tmps.size = n := by rw [← ha1]; exact put_size hs.sz
  refine wpList_plain rfl fun K hK => wp_of_value (w' := w) (x := a1.eval (.tmp tk)) rfl (hK _ _ ?_)
  clear hK K
  generalize ha2 : a1.put (some tm) (a1.eval (.tmp tk)) = a2
  have s2 : a2.tmps.size = n := by rw [← ha2]; exact put_size s1
  have va : a2.tmps.getD tl undef = .agg v2.toArray := by
    rw [← ha2, put_ne s1 hb.2.1 (fun e => off_ne hne.1 (by simp) e.symm), ← ha1, put_at hs.sz hb.1]
  have vb : a2.tmps.getD tm undef = .int .i64 k := by
    rw [← ha2, put_at s1 hb.2.1]
    show a1.tmps.getD tk undef = _
    rw [← ha1, put_ne hs.sz hb.1 (off_ne hne.2 (by simp))]
    exact hs.ev tk _ hkv
  refine wpList_plain rfl fun K hK => ?_
  unfold Oper.wp
  have e : (execOp a2.eval ⟨some tr, .call ⟨.value (.func g), #[.tmp tl, .tmp tm], tys⟩, y3, p3, f3, none⟩).run P w = .ok (.enter g [Value.agg v2.toArray, Value.int .i64 k].toArray) w := by
    have := hm.1 [Value.agg v2.toArray, Value.int .i64 k].toArray w
    simp only [execOp, resolve, Act.eval, Deferred.ofValue, pure_bind, invoke, Array.empty_append]
    simpa [Act.eval, va, vb] using this
  rw [e]
  refine Calls.mono (hm.2 w _ b2 ⟨v2, rfl, g2⟩) fun e w' ⟨q1, q2, q3⟩ => ?_
  subst q1
  obtain ⟨v2', q4, q5⟩ := q2
  have hv2 : v2' = v2 := by have := Value.agg.inj q4; simpa using this.symm
  subst hv2
  have hbn : b ∉ b2 := fun hin => h8 (by simp [hin])
  refine hK _ _ (h _ _ ⟨put_size s2, ?_, fun t v ht => ?_, ⟨arr, T', ?_, h6⟩, ?_, h8, h9.trans (q3.mono fun z hz => hF z (by simp [hz]))⟩)
  · exact put_defers (by rw [← ha2]; exact put_defers (by rw [← ha1]; exact put_defers hs.df))
  · simp only [getP] at ht
    split at ht
    · rename_i e; subst e; cases ht; exact put_at s2 hb.2.2
    · rename_i e
      have hmem : ∀ (l : List (Nat × Value)), (l.all fun q => offB [tl, tm] q.1) = true → getP l t = some v → offB [tl, tm] t = true := by
        intro l
        induction l with
        | nil => intro _ h; cases h
        | cons q l ih =>
          intro hl hg
          simp only [List.all_cons, Bool.and_eq_true] at hl
          simp only [getP] at hg
          split at hg
          · rename_i e; rw [e]; exact hl.1
          · exact ih hl.2 hg
      have ho := hmem env hen ht
      rw [put_ne s2 hb.2.2 e, ← ha2, put_ne s1 hb.2.1 (off_ne ho (by simp)), ← ha1, put_ne hs.sz hb.1 (off_ne ho (by simp))]
      exact hs.ev t v ht
  · rw [q3.same b (Array.getElem?_eq_some_iff.1 h5).1 hbn]; exact h5
  · refine treeL_app.2 ⟨v1, v2' ++ v3, b1, b2 ++ b3, rfl, rfl, dd1, g1.frame fun z hz => q3.same z (g1.lt z hz) fun hin => dd1 z hz (by simp [hin]), treeL_app.2 ⟨v2', v3, b2, b3, rfl, rfl, dd2, q5, g3.frame fun z hz => q3.same z (g3.lt z hz) fun hin => dd2 z hin hz⟩⟩
end
end Go.AL

namespace Go.AL
open Go
set_option linter.unusedSectionVars false
variable [Inhabited Glob] [Inhabited NoLend]
set_option linter.unusedSimpArgs false
set_option linter.unusedVariables false
/-! ### What is left of a region, told by states: calls whose arguments keep their owners -/
def Sem (P : Program) (E : Ent) (all : Array Oper) (l : List Oper) (Q : Exit → AS → Prop) (s : AS) : Prop :=
  (l.all fun o => o.dst.all fun d => decide (d < E.n)) = true → ∀ (a : Act) (w : World), Sim E s a w → wpList P all (fun e a' w' => ∃ s', Q e s' ∧ Sim E s' a' w') l a w
theorem rvc_soundS {P : Program} {TT : Tab P} {E : Ent} {all : Array Oper} {K : AS → Prop} {Q : Exit → Act → World → Prop} {suf : List Oper} (hq : ∀ s' a' w', K s' → Sim E s' a' w' → wpList P all Q suf a' w') :
    ∀ (rest : List Oper) (s : AS) (a : Act) (w : World), (rest.all fun o => o.dst.all fun d => decide (d < E.n)) = true → Sim E s a w → rvc TT E (all.toList.map (·.dst)) rest s K → wpList P all Q (rest ++ suf) a w := by
  intro rest
  induction rest with
  | nil => intro s a w _ hs h; exact hq s a w h hs
  | cons o rest ih =>
    intro s a w hd hs h
    obtain ⟨dst, op, ty, pos, after, guard⟩ := o
    simp only [List.all_cons, Bool.and_eq_true] at hd
    have hdst : ∀ d, dst = some d → d < E.n := fun d hdd => by
      have := hd.1
      simp only [hdd, Option.all_some, decide_eq_true_eq] at this
      exact this
    have hstep := step_ok (P := P) (E := E) (s := s) (ty := ty) TT op
    have go : ∀ (g : Option (Nat × Bool)), (match stp TT s op with
      | .ok pre fact v s' => pre ∧ (fact → rvc TT E (all.toList.map (·.dst)) rest (s'.put dst v) K)
      | .call g args => CallV P E s g args fun v s' => rvc TT E (all.toList.map (·.dst)) rest (s'.put dst v) K
      | .stop => False) → (Oper.mk dst op ty pos after g).wp P a w (wpList P all Q (rest ++ suf)) Q := by
      intro g hr
      cases hst : stp TT s op with
      | ok pre fact v s' =>
        rw [hst] at hr hstep
        refine (hstep hr.1).wp hs hdst fun v0 s0 ⟨h1, h2, h3⟩ _ a' w' hs' => ?_
        subst h2; subst h3
        exact ih _ a' w' hd.2 hs' (hr.2 h1)
      | call f args =>
        rw [hst] at hr hstep
        exact (hstep _ hr).wp hs hdst fun v0 s0 hk _ a' w' hs' => ih _ a' w' hd.2 hs' hk
      | stop => rw [hst] at hr; exact hr.elim
    rw [List.cons_append]
    unfold wpList
    cases guard with
    | none =>
      rw [if_pos (by simp [Region.wanted])]
      exact .inl (go none h)
    | some jw =>
      obtain ⟨j, want⟩ := jw
      simp only [rvc] at h
      split at h
      · rename_i t ht
        split at h
        · rename_i b hb
          obtain ⟨I, τ, ρ, h1, h2⟩ := hs.ex
          have hv := h2 t
          rw [hb] at hv
          have hbv := rep_bool hv
          have hy : yielded all a.tmps j = some b := by
            simp only [List.getElem?_map, Array.getElem?_toList, Option.map_eq_some_iff] at ht
            obtain ⟨o, ho, hod⟩ := ht
            have hbv' : a.tmps[t]? = some (.bool b) := by
              simp only [Array.getD_eq_getD_getElem?] at hbv
              cases hq : a.tmps[t]? with
              | none => rw [hq] at hbv; simp [undef] at hbv
              | some x => rw [hq] at hbv; simpa using hbv
            simp [yielded, ho, hod, hbv']
          by_cases hw : b = want
          · rw [if_pos (by simp [Region.wanted, hy, hw])]
            exact .inl (go _ (h.1 hw))
          · rw [if_neg (by simp [Region.wanted, hy, hw])]
            refine ih _ _ w hd.2 ?_ (h.2 (by cases b <;> cases want <;> simp_all))
            exact (undef_res hs).sim dst hs.sz hs.df hdst
        · rename_i hb
          obtain ⟨I, τ, ρ, h1, h2⟩ := hs.ex
          have hv := h2 t
          rw [hb] at hv
          have hbv := rep_undef hv
          have hy : yielded all a.tmps j = none := by
            simp only [List.getElem?_map, Array.getElem?_toList, Option.map_eq_some_iff] at ht
            obtain ⟨o, ho, hod⟩ := ht
            simp only [Array.getD_eq_getD_getElem?] at hbv
            cases hq : a.tmps[t]? with
            | none => simp [yielded, ho, hod, hq]
            | some x => rw [hq] at hbv; simp at hbv; subst hbv; simp [yielded, ho, hod, hq, undef]
          rw [if_neg (by simp [Region.wanted, hy])]
          exact ih _ _ w hd.2 ((undef_res hs).sim dst hs.sz hs.df hdst) h
        · exact h.elim
      · exact h.elim

section
variable {P : Program} {E : Ent} {all : Array Oper} {Q : Exit → AS → Prop} {s : AS} {rest l : List Oper} {dst : Option Nat} {ty : TypeId} {pos : String} {after : Array Edge}
/-- A region, up to its operation k. -/
theorem awp_regionS (TT : Tab P) {id : Nat} (k : Nat)
    (h : ∀ K : AS → Prop, (∀ s', Sem P E l.toArray (l.drop k) Q s' → K s') → rvc TT E (l.map (·.dst)) (l.take k) s K) : AWp P E (.region id l.toArray false) Q s := fun hok a w hs => by
  simp only [codeOK] at hok
  have hok' : (l.all fun o => o.dst.all fun d => decide (d < E.n)) = true := by simpa using hok
  have h1 : ((l.take k).all fun o => o.dst.all fun d => decide (d < E.n)) = true := List.all_eq_true.2 fun o ho => List.all_eq_true.1 hok' o (List.mem_of_mem_take ho)
  have h2 : ((l.drop k).all fun o => o.dst.all fun d => decide (d < E.n)) = true := List.all_eq_true.2 fun o ho => List.all_eq_true.1 hok' o (List.mem_of_mem_drop ho)
  refine wp_region_lit ?_
  have key := rvc_soundS (TT := TT) (all := l.toArray) (K := Sem P E l.toArray (l.drop k) Q) (Q := fun e a' w' => ∃ s', Q e s' ∧ Sim E s' a' w') (suf := l.drop k) (fun s' a' w' hk hs' => hk h2 a' w' hs') (l.take k) s a w h1 hs (by
    have := h _ (fun _ h => h)
    simpa using this)
  rw [List.take_append_drop] at key
  exact key
theorem awp_seqrS (TT : Tab P) {id : Nat} (k : Nat) {y : Code}
    (h : ∀ K : AS → Prop, (∀ s', Sem P E l.toArray (l.drop k) (AThen (AWp P E y Q) Q) s' → K s') → rvc TT E (l.map (·.dst)) (l.take k) s K) : AWp P E (.seq (.region id l.toArray false) y) Q s :=
  awp_seq (awp_regionS TT k h)
theorem sem_rvc (TT : Tab P) (h : ∀ K : AS → Prop, (∀ s', Q .normal s' → K s') → rvc TT E (all.toList.map (·.dst)) l s K) : Sem P E all l Q s := fun hd a w hs =>
  rvc_sound (TT := TT) (K := Q .normal) (fun s' a' w' hk hs' => ⟨s', hk, hs'⟩) l s a w hd hs (h _ fun _ h => h)
end
end Go.AL

namespace Go.AL
open Go
set_option linter.unusedSectionVars false
variable [Inhabited Glob] [Inhabited NoLend]
set_option linter.unusedSimpArgs false
set_option linter.unusedVariables false
/-! ### A body that begins with pinned elements -/
/-- A number, a truth, a text, or a value that is old. -/
def oldD (I0 : IH) : DV → Prop
  | .pin c v => RepD I0 (fun _ => none) c v
  | .sl _ _ _ => False
  | _ => True
def oldL (I0 : IH) : List DV → Prop
  | [] => True
  | c :: cs => oldD I0 c ∧ oldL I0 cs
def oldLL (I0 : IH) : List (List DV) → Prop
  | [] => True
  | x :: xs => oldL I0 x ∧ oldLL I0 xs
mutual
theorem DV.er_er : ∀ c : DV, c.er.er = c.er
  | .int _ _ => rfl
  | .bool _ => rfl
  | .str _ => rfl
  | .sl sz xs o => by simp only [DV.er, erLL_erLL xs]
  | .pin c v => by simp only [DV.er]; exact DV.er_er c
theorem erLL_erLL : ∀ xs : List (List DV), erLL (erLL xs) = erLL xs
  | [] => rfl
  | x :: xs => by simp only [erLL, erL_erL x, erLL_erLL xs]
theorem erL_erL : ∀ xs : List DV, erL (erL xs) = erL xs
  | [] => rfl
  | x :: xs => by simp only [erL, DV.er_er x, erL_erL xs]
end
def pinLL (vals : Nat → Value) (sz : Nat) : Nat → List (List DV) → List (List DV)
  | _, [] => []
  | i, x :: xs => pnL (fun j => vals (i * sz + j)) 0 x :: pinLL vals sz (i + 1) xs
/-! ### A call that takes an element out of a slice in place -/
/-- What slices.Delete(s, i, i+1) does to memory. -/
def DelF (P : Program) (g : FuncId) (sz : Nat) : Prop :=
  CallOK P g ∧ ∀ (w : World) (b n cap i : Nat) (arr : Array Value) (T : TypeId), w.heap[b]? = some (.cells arr T (0, 0)) → arr.size = cap * sz → i < n → n ≤ cap → cap ≤ 9223372036854775807 → (∀ (j : Nat) v, j < n * sz → arr[j]? = some v → v.oneCell' = true) →
    Calls P g [Value.slice (some ⟨b, 0, none⟩) n cap, Value.int .i64 i, Value.int .i64 ((i : Int) + 1)].toArray w fun e w' => e = .returned (.slice (some ⟨b, 0, none⟩) (n - 1) cap) ∧ (∃ arr', w'.heap[b]? = some (.cells arr' T (0, 0)) ∧ arr'.size = arr.size ∧ ∀ j, j < (n - 1) * sz → arr'[j]? = if j < i * sz then arr[j]? else arr[j + sz]?) ∧ FrameW [b] w w'
end Go.AL

namespace Go.AL
open Go
set_option linter.unusedSectionVars false
variable [Inhabited Glob] [Inhabited NoLend]
set_option linter.unusedSimpArgs false
set_option linter.unusedVariables false
/-! ### A block that its token's bearer writes anew -/
def redoI (I : IH) (b e : Nat) (arr : Array Value) : IH := fun b' o => if b' = b then (if o < e then arr[o]? else none) else I b' o
/-! ### From states to known values, and back -/
section
variable {P : Program} {n : Nat} {Q : Exit → Act → World → Prop} {env : List (Nat × Value)} {all : Array Oper} {rest : List Oper} {y : TypeId} {p : String} {f : Array Edge} {x x2 : Operand} {w0 : World}
end
theorem RepL.set {I : IH} {τ : TH} {cs : List DV} {vs : List Value} {k : Nat} {c : DV} {v : Value} (h : RepL I τ cs vs) (hc : RepD I τ c v) : RepL I τ (cs.set k c) (vs.set k v) := by
  refine ⟨by simpa using h.1, fun i c' v' hc' hv' => ?_⟩
  rw [List.getElem?_set] at hc' hv'
  by_cases e : k = i
  · subst e
    by_cases hl : k < cs.length
    · have hl2 : k < vs.length := by rw [← h.1]; exact hl
      simp [hl] at hc'
      simp [hl2] at hv'
      subst hc'; subst hv'; exact hc
    · simp [hl] at hc'
  · simp only [if_neg e] at hc' hv'
    exact h.2 i c' v' hc' hv'
end Go.AL

namespace Go.AL
open Go
set_option linter.unusedSectionVars false
variable [Inhabited Glob] [Inhabited NoLend]
set_option linter.unusedSimpArgs false
set_option linter.unusedVariables false
/-! ### Slices inside a slice that owns its memory -/
def scA : AV → Bool
  | .d c => isSc c
  | _ => false
section
variable {P : Program} {E : Ent} {all : Array Oper} {Q : Exit → AS → Prop} {s : AS} {rest : List Oper}
end
end Go.AL

namespace Go.AL
open Go
set_option linter.unusedSectionVars false
variable [Inhabited Glob] [Inhabited NoLend]
set_option linter.unusedSimpArgs false
set_option linter.unusedVariables false
/-! ### Is a slice nil? -/
section
variable {P : Program} {E : Ent} {all : Array Oper} {Q : Exit → AS → Prop} {s : AS} {rest : List Oper} {dst : Option Nat} {ty : TypeId} {pos : String} {after : Array Edge}
end
end Go.AL

namespace Go.AL
open Go
set_option linter.unusedSectionVars false
variable [Inhabited Glob] [Inhabited NoLend]
set_option linter.unusedSimpArgs false
set_option linter.unusedVariables false
/-! ### A drawn region whose last operation waits for all others; facts of its temporaries -/
section
variable {P : Program} {Q : Exit → Act → World → Prop}
def exitN (X : Act → World → Prop) (Q : Exit → Act → World → Prop) : Exit → Act → World → Prop
  | .normal, a, w => X a w
  | e, a, w => Q e a w
theorem wp_exit {o : Oper} {a : Act} {w : World} {X K K' : Act → World → Prop} (h : ∀ a w, K a w → K' a w) (hh : o.wp P a w K (exitN X Q)) : o.wp P a w K' Q := by
  unfold Oper.wp at *
  generalize (execOp a.eval o).run P w = r at *
  cases r with
  | ok n w' =>
    cases n <;> simp only [Oper.upon] at hh ⊢ <;>
      first
        | exact h _ _ hh
        | exact Calls.mono hh (fun e w'' he => by cases e <;> first | exact h _ _ he | exact he)
        | exact Rows.mono hh (fun _ _ he => h _ _ he)
  | halt x w' => cases x <;> simp only [Oper.upon] at hh ⊢ <;> exact hh
variable {all : Array Oper} {st : Oper}
/-- Edges lead back. -/
def backB (all : Array Oper) : Prop := ∀ (i : Nat) (o : Oper), all[i]? = some o → ∀ e ∈ o.after, Region.binds .any e = true → e.on < i
end
section
variable {P : Program} {E : Ent} {TT : Tab P} {T A : List Nat} {K : AS → Prop} {all : Array Oper}
def FactsAt (F : List (Nat × Nat × Value)) (listed : Array Bool) (a : Act) : Prop := ∀ f ∈ F, listed.getD f.1 false = true → a.tmps.getD f.2.1 undef = f.2.2
def BaseAt (B : List (Nat × Value)) (a : Act) : Prop := ∀ q ∈ B, a.tmps.getD q.1 undef = q.2
end
end Go.AL

namespace Go.AL
open Go
set_option linter.unusedSectionVars false
variable [Inhabited Glob] [Inhabited NoLend]
set_option linter.unusedSimpArgs false
set_option linter.unusedVariables false
/-! ### A store into a field of an element of an owned slice, at the end of a drawn region -/
section
variable {P : Program} {E : Ent} {all : Array Oper} {Q : Exit → AS → Prop} {s : AS}
end
/-! ### The checks on such a region -/
def dstIs (d : Nat) : Option Oper → Bool
  | some o => match o.dst with | some x => Nat.beq x d | none => false
  | none => false
def uniqB (pre : List Oper) (k d : Nat) : Bool := (List.range pre.length).all fun j => Nat.beq j k || !dstIs d pre[j]?
def freeB (pre : List Oper) (d : Nat) : Bool := (List.range pre.length).all fun j => !dstIs d pre[j]?
def grdB (pre : List Oper) : Bool := pre.all fun o => match o.guard with | none => true | some (j, _) => Nat.blt j pre.length
def depA (all : Array Oper) : Nat → Nat → Nat → Bool
  | 0, _, _ => false
  | fuel + 1, j, i => match all[j]? with
    | none => false
    | some o => o.after.toList.any fun e => Region.binds .any e && (Nat.beq e.on i || depA all fuel e.on i)
def edgeB (f : Array Edge) (k : Nat) : Bool := f.toList.any fun e => Region.binds .any e && Nat.beq e.on k
def lastB (pre : List Oper) (st : Oper) : Bool := grdB pre && (st.after.toList.all fun e => !Region.binds .any e || Nat.blt e.on pre.length) && (List.range pre.length).all fun k => depA (pre ++ [st]).toArray 12 pre.length k
section
variable {P : Program} {E : Ent} {Q : Exit → AS → Prop} {s : AS}
/-- What must hold ahead of the last operation. -/
structure FinS (E : Ent) (Q : Exit → AS → Prop) (sz i j t r rz : Nat) (xs : List (List DV)) (el : List DV) (L : List Nat) (s : AS) : Prop where
  ex : ∃ (c : DV) (us : List Nat) (kept : List (Nat × AV)), getE s.env r = .d (.sl sz xs (.tok t)) ∧ getE s.env rz = .d c ∧ ownLL (xs.set i (el.set j c)) us ∧ (∀ u ∈ us, u ∈ s.toks ∧ u ≠ t) ∧ t ∈ s.toks ∧ pickE s.env L = kept ∧ (kept.all fun p => scA p.2) = true ∧ Q .normal ⟨(r, .d (.sl sz (xs.set i (el.set j c)) (.tok s.nt))) :: kept, [], s.nt :: us, s.nt + 1⟩
end
end Go.AL

namespace Go.AL
open Go
set_option linter.unusedSectionVars false
variable [Inhabited Glob] [Inhabited NoLend]
set_option linter.unusedSimpArgs false
set_option linter.unusedVariables false
section
variable {P : Program} {E : Ent} {Q : Exit → AS → Prop} {s : AS}
end
end Go.AL

namespace Go.AL
open Go
set_option linter.unusedSectionVars false
variable [Inhabited Glob] [Inhabited NoLend]
set_option linter.unusedSimpArgs false
set_option linter.unusedVariables false
/-! ### A function that rewrites a list of integers in place, at a list inside an owned list -/
def encN (n : Int) : List DV := [.int .i64 n]
/-- g puts f zs where zs stood. -/
def InI (P : Program) (g : FuncId) (f : List Int → List Int) : Prop :=
  CallOK P g ∧ (∀ zs, (f zs).length = zs.length) ∧ ∀ (w : World) (b cap : Nat) (zs : List Int) (arr : Array Value) (T : TypeId), w.heap[b]? = some (.cells arr T (0, 0)) → arr.size = cap → zs.length ≤ cap → zs.length < 4611686018427387904 → (∀ (j : Nat) z, zs[j]? = some z → arr[j]? = some (.int .i64 z)) →
    Calls P g [Value.slice (some ⟨b, 0, none⟩) zs.length cap].toArray w fun e w' => e = .returned (.tuple #[]) ∧ (∃ arr', w'.heap[b]? = some (.cells arr' T (0, 0)) ∧ arr'.size = arr.size ∧ ∀ (j : Nat) z, (f zs)[j]? = some z → arr'[j]? = some (.int .i64 z)) ∧ FrameW [b] w w'
section
variable {P : Program} {E : Ent} {all : Array Oper} {Q : Exit → AS → Prop} {s : AS} {rest : List Oper}
end
end Go.AL

namespace Go.AL
open Go
set_option linter.unusedSectionVars false
variable [Inhabited Glob] [Inhabited NoLend]
set_option linter.unusedSimpArgs false
set_option linter.unusedVariables false
/-! ### slices.DeleteFunc at a list inside an owned list, and its result put back there -/
/-- gd, with the closure F over a variable that holds gv, keeps of zs what is not gv. -/
def DelI (P : Program) (gd F : FuncId) : Prop :=
  CallOK P gd ∧ ∀ (w : World) (b cap bg : Nat) (gv : Int) (zs : List Int) (arr : Array Value) (T : TypeId), w.heap[b]? = some (.cells arr T (0, 0)) → arr.size = cap → zs.length ≤ cap → cap ≤ 9223372036854775807 → bg ≠ b → w.cell? ⟨bg, 0, none⟩ = some (.int .i64 gv) → (∀ (j : Nat) z, zs[j]? = some z → arr[j]? = some (.int .i64 z)) →
    Calls P gd [Value.slice (some ⟨b, 0, none⟩) zs.length cap, Value.func (.func F) #[] #[.pointer (some ⟨bg, 0, none⟩)]].toArray w fun e w' => e = .returned (.slice (some ⟨b, 0, none⟩) (zs.filter fun z => !(z == gv)).length cap) ∧ (∃ arr', w'.heap[b]? = some (.cells arr' T (0, 0)) ∧ arr'.size = arr.size ∧ ∀ (j : Nat) z, (zs.filter fun z => !(z == gv))[j]? = some z → arr'[j]? = some (.int .i64 z)) ∧ FrameW [b] w w'
section
variable {P : Program} {E : Ent} {all : Array Oper} {Q : Exit → AS → Prop} {s : AS} {rest : List Oper}
end
end Go.AL

namespace Go.AL
open Go Go.RowKit
set_option linter.unusedSimpArgs false
set_option linter.unusedVariables false
set_option linter.unusedSectionVars false
variable [Inhabited Glob]
/-! ### A function of the library, told by a contract on worlds -/
/-- What may be handed back: new cells may be known, old ones as before. -/
def NewI (I0 I : IH) (w w' : World) : Prop := (∀ b o v, I b o = some v → w'.cell? ⟨b, o, none⟩ = some v) ∧ ∀ b, b < w.heap.size → ∀ o, I b o = I0 b o
theorem NewI.old {I0 : IH} {w w' : World} (h : ∀ b o v, I0 b o = some v → w.cell? ⟨b, o, none⟩ = some v) (hb : Below w.heap.size w w') : NewI I0 I0 w w' :=
  ⟨fun b o v hv => by
    have h1 := h b o v hv
    have h2 := World.block_lt_of_cell? w ⟨b, o, none⟩ h1
    simpa [World.cell?, hb.block b h2] using h1, fun _ _ _ => rfl⟩
theorem ac_of_calls {P : Program} {g : FuncId} {args : List AV} {R : AV → Prop} (hc : CallOK P g)
    (h : ∀ (w : World) (S : Nat → Prop) (I : IH) (τ : TH) (ρ : Nat → Nat) (vs : List Value), (default : Glob).ok w S → (∀ b o v, I b o = some v → w.cell? ⟨b, o, none⟩ = some v) → RepAs I τ ρ 0 args vs →
      Calls P g vs.toArray w fun e w' => ∃ x r I', e = .returned x ∧ R r ∧ Below w.heap.size w w' ∧ NewI I I' w w' ∧ RepA I' τ ρ 0 r x) : GivesR P g args R :=
  ⟨hc, fun E vs hk hS hA => by
    refine (h E.w0 E.gs E.I0 E.τ0 E.ρ0 vs E.gl hS.iok hA).mono fun e w' ⟨x, r, I', he, hr, hb, hI, hx⟩ => ⟨x, he, r, [], [], E.nt0, I', E.τ0, E.ρ0, ⟨hr, rfl, rfl⟩, ?_, hx⟩
    have hk0 : E.k = 0 := hk
    exact {
      iok := hI.1
      obj := fun i o h => by simp at h
      objI := fun i h => by simp at h
      inj := fun i j h => by simp at h
      tok := fun t h => by simp at h
      tokd := fun t h => by simp at h
      os := hb.os
      tape := hb.tape
      output := hb.output
      size := hb.size
      blk := fun b h _ => hb.block b h
      ifr := fun b h o => hI.2 b h.1 o
      ifl := fun b _ o v h => by rw [hI.2 b (hS.i0 _ _ _ h) o]; exact h
      rho := fun _ _ => rfl
      fresh := fun i _ h => by simp at h
      tau := fun _ _ => rfl
      len := by simp [hk0]
      ntle := Nat.le_refl _
      i0 := hS.i0
      tn := hS.tn }⟩
/-- A list of texts in memory. -/
theorem rep_texts {I : IH} {τ : TH} {ρ : Nat → Nat} {n : Nat} {l : List (List UInt8)} {o : Own} {x : Value} {w : World} (hI : ∀ b o v, I b o = some v → w.cell? ⟨b, o, none⟩ = some v) (h : RepA I τ ρ n (.d (.sl 1 (l.map fun s => [DV.str s]) o)) x) :
    ∃ a cap, x = .slice a l.length cap ∧ l.length ≤ cap ∧ cap ≤ 9223372036854775807 ∧ (∀ s ∈ l, s.length ≤ 9223372036854775807) ∧ (0 < l.length → ∃ b off, a = some ⟨b, off, none⟩ ∧ b < w.heap.size ∧ ∀ (j : Nat) s, l[j]? = some s → w.cell? ⟨b, off + j, none⟩ = some (.string ⟨s.toArray⟩)) := by
  cases h with
  | d _ _ h =>
  cases h with
  | sl _ _ _ a cap vals hsz hcap hmax hnil hadr hIc hrep hown =>
    have hrs : ∀ (j : Nat) s, l[j]? = some s → vals (j * 1 + 0) = .string ⟨s.toArray⟩ ∧ s.length ≤ 9223372036854775807 := fun j s hj => by
      have := hrep j [.str s] 0 (.str s) (by rw [List.getElem?_map, hj]; rfl) rfl
      cases hv : vals (j * 1 + 0) with
      | _ => rw [hv] at this; cases this <;> exact ⟨rfl, by assumption⟩
    rw [List.length_map] at *
    refine ⟨a, cap, rfl, hcap, hmax, fun s hs => ?_, fun h0 => ?_⟩
    · obtain ⟨j, hj⟩ := List.getElem?_of_mem hs
      exact (hrs j s hj).2
    · cases a with
      | none => have := hnil rfl; omega
      | some adr =>
        have hs := hadr (by omega) adr rfl
        obtain ⟨b, off, spot⟩ := adr
        dsimp only at hs
        subst hs
        have hc : ∀ (j : Nat) s, l[j]? = some s → w.cell? ⟨b, off + j, none⟩ = some (.string ⟨s.toArray⟩) := fun j s hj => by
          have := hI _ _ _ (hIc _ rfl j [.str s] 0 (.str s) (by rw [List.getElem?_map, hj]; rfl) rfl)
          rw [(hrs j s hj).1] at this
          simpa using this
        refine ⟨b, off, rfl, ?_, hc⟩
        obtain ⟨s, hs⟩ : ∃ s, l[0]? = some s := ⟨l[0], List.getElem?_eq_getElem h0⟩
        exact World.block_lt_of_cell? w ⟨b, off + 0, none⟩ (hc 0 s hs)
/-- New texts in a new block. -/
theorem new_texts {I : IH} {τ : TH} {ρ : Nat → Nat} {w w' : World} {l : List (List UInt8)} {b cap : Nat} (hI : ∀ b o v, I b o = some v → w.cell? ⟨b, o, none⟩ = some v) (hb : Below w.heap.size w w') (hbn : w.heap.size ≤ b) (hl : ∀ s ∈ l, s.length ≤ 9223372036854775807) (hcap : l.length ≤ cap) (hm : cap ≤ 9223372036854775807)
    (hc : ∀ (j : Nat) s, l[j]? = some s → w'.cell? ⟨b, j, none⟩ = some (.string ⟨s.toArray⟩)) :
    ∃ I', NewI I I' w w' ∧ RepA I' τ ρ 0 (.d (.sl 1 (l.map fun s => [DV.str s]) .no)) (.slice (some ⟨b, 0, none⟩) l.length cap) := by
  have hIb : ∀ b o v, I b o = some v → b < w.heap.size := fun b o v h => World.block_lt_of_cell? w ⟨b, o, none⟩ (hI b o v h)
  refine ⟨fun b' o => if b' = b then (l[o]?).map fun s => Value.string ⟨s.toArray⟩ else I b' o, ⟨fun b' o v hv => ?_, fun b' h o => if_neg (by omega)⟩, ?_⟩
  · dsimp only at hv
    split at hv
    · rename_i e
      subst e
      rw [Option.map_eq_some_iff] at hv
      obtain ⟨s, hs, rfl⟩ := hv
      exact hc o s hs
    · exact (NewI.old hI hb).1 b' o v hv
  · have hlen : (l.map fun s => [DV.str s]).length = l.length := by simp
    have := RepD.sl (I := fun b' o => if b' = b then (l[o]?).map fun s => Value.string ⟨s.toArray⟩ else I b' o) (τ := τ) 1 (l.map fun s => [DV.str s]) .no (some ⟨b, 0, none⟩) cap (fun i => ((l[i]?).map fun s => Value.string ⟨s.toArray⟩).getD undef)
      (by intro x hx; obtain ⟨s, _, rfl⟩ := List.mem_map.1 hx; rfl) (by rw [hlen]; exact hcap) hm (by simp) (by rintro _ adr ⟨⟩; rfl) ?_ ?_ trivial
    · rw [hlen] at this; exact .d _ _ this
    · rintro adr ⟨⟩ i x j c hx hcx
      rw [List.getElem?_map, Option.map_eq_some_iff] at hx
      obtain ⟨s, hs, rfl⟩ := hx
      obtain rfl : j = 0 := by have := (List.getElem?_eq_some_iff.1 hcx).1; simpa using this
      simp [hs]
    · intro i x j c hx hcx
      rw [List.getElem?_map, Option.map_eq_some_iff] at hx
      obtain ⟨s, hs, rfl⟩ := hx
      obtain rfl : j = 0 := by have := (List.getElem?_eq_some_iff.1 hcx).1; simpa using this
      simp at hcx
      subst hcx
      simp only [Nat.mul_one, Nat.add_zero, hs, Option.map_some, Option.getD_some]
      exact .str s (hl s (List.mem_of_getElem? hs))
theorem reps_one {I : IH} {τ : TH} {ρ : Nat → Nat} {n : Nat} {a : AV} {vs : List Value} (h : RepAs I τ ρ n [a] vs) : ∃ x, vs = [x] ∧ RepA I τ ρ n a x := by
  match vs, h with
  | [x], h => exact ⟨x, rfl, h.2 0 a x rfl rfl⟩
  | [], h => exact absurd h.1 (by simp)
  | _ :: _ :: _, h => exact absurd h.1 (by simp)
theorem reps_two {I : IH} {τ : TH} {ρ : Nat → Nat} {n : Nat} {a b : AV} {vs : List Value} (h : RepAs I τ ρ n [a, b] vs) : ∃ x y, vs = [x, y] ∧ RepA I τ ρ n a x ∧ RepA I τ ρ n b y := by
  match vs, h with
  | [x, y], h => exact ⟨x, y, rfl, h.2 0 a x rfl rfl, h.2 1 b y rfl rfl⟩
  | [], h => exact absurd h.1 (by simp)
  | [_], h => exact absurd h.1 (by simp)
  | _ :: _ :: _ :: _, h => exact absurd h.1 (by simp)
theorem reps_three {I : IH} {τ : TH} {ρ : Nat → Nat} {n : Nat} {a b c : AV} {vs : List Value} (h : RepAs I τ ρ n [a, b, c] vs) : ∃ x y z, vs = [x, y, z] ∧ RepA I τ ρ n a x ∧ RepA I τ ρ n b y ∧ RepA I τ ρ n c z := by
  match vs, h with
  | [x, y, z], h => exact ⟨x, y, z, rfl, h.2 0 a x rfl rfl, h.2 1 b y rfl rfl, h.2 2 c z rfl rfl⟩
  | [], h => exact absurd h.1 (by simp)
  | [_], h => exact absurd h.1 (by simp)
  | [_, _], h => exact absurd h.1 (by simp)
  | _ :: _ :: _ :: _ :: _, h => exact absurd h.1 (by simp)
end Go.AL

namespace Go.AL
open Go
set_option linter.unusedSimpArgs false
set_option linter.unusedVariables false
set_option linter.unusedSectionVars false
variable [Inhabited Glob]
/-! ### A function that is lent who may append -/
def ACT (P : Program) (g : FuncId) (args : List AV) (objs : List AO) (lts : List Nat) (R : Nat → AV → List AO → List Nat → Nat → Prop) : Prop :=
  CallOK P g ∧ ∀ (E : Ent) (vs : List Value), E.k = objs.length → St E objs lts E.nt0 E.I0 E.τ0 E.ρ0 E.w0 → RepAs E.I0 E.τ0 E.ρ0 objs.length args vs →
    Calls P g vs.toArray E.w0 fun e w' => ∃ x, e = .returned x ∧ ∃ r objs' toks' nt' I' τ' ρ', R E.nt0 r objs' toks' nt' ∧ St E objs' toks' nt' I' τ' ρ' w' ∧ RepA I' τ' ρ' objs'.length r x
section
variable {P : Program} (TT : Tab P) (E : Ent) {all : List (Option Nat)} {g : FuncId} {args : List AV} {dst : Option Nat} {rest : List Oper} {s : AS} {K : AS → Prop}
end
end Go.AL

namespace Go.AL
open Go Go.RowKit Go.ChangeShapes Go.WideShapes Go.ChangeAt
set_option linter.unusedSectionVars false
variable [Inhabited Glob]
set_option linter.unusedSimpArgs false
set_option linter.unusedVariables false

/-! ### From a law's contract to its row: listed variables, the world's shape -/
/-- The cells that a datum without addresses lays. -/
def flatD : Nat → DataW Unit → List Value
  | 0, _ => []
  | n + 1, d => match d with
    | .agg ps => ps.flatMap (flatD n)
    | .lit (.int k z) => [.int k z]
    | .lit (.bool b) => [.bool b]
    | .lit (.string s) => [.string ⟨s.toArray⟩]
    | _ => []
def layV (P : Program) : List (String × DataW Unit) → Array Obj → Array Obj
  | [], h => h
  | (v, d) :: l, h => layV P l (match P.globalNamed v with
    | some g => h.modify g fun
      | .cells _ t fr => .cells (flatD 4 d).toArray t fr
      | o => o
    | none => h)
end Go.AL

namespace Go.AL
open Go
set_option linter.unusedSectionVars false
variable [Inhabited Glob] [Inhabited NoLend]
set_option linter.unusedSimpArgs false
set_option linter.unusedVariables false
/-! ### A store into the last element of an owned slice (out[len(out)-1] = ..), in a drawn region -/
section
variable {P : Program} {E : Ent} {Q : Exit → AS → Prop} {s : AS}
end
/-! ### A literal slice that may be written -/
section
variable {P : Program} {E : Ent} {s : AS} {ty : TypeId} {K : AV → AS → Prop}
end
section
variable {P : Program} {E : Ent} {all : Array Oper} {Q : Exit → AS → Prop} {s : AS} {rest : List Oper} {dst : Option Nat} {ty : TypeId} {pos : String} {after : Array Edge}
end
end Go.AL

namespace Go.AL
open Go
/-! ### What a row's listed variables hold -/
theorem laidVars_at {P : Program} {w : World} : ∀ {l : List (String × DataW Unit)} {ps : List MemPlace}, DataW.LaidVars P w l ps → ∀ n d, (n, d) ∈ l →
    ∃ g t cs fuel p, P.globalNamed n = some g ∧ (P.globals[g]?).map (·.type) = some t ∧ w.var? P n = some cs ∧ DataW.trod (fun _ => ()) P w 0 (fun _ => true) false fuel t cs.toList = some (d, p)
  | [], _, _, _, _, hm => by cases hm
  | (n', d') :: r, ps, h, n, d, hm => by
    obtain ⟨g, t, cs, fuel, p, q, h1, h2, h3, h4, h5, _⟩ := h
    rcases List.mem_cons.1 hm with e | e
    · cases e
      exact ⟨g, t, cs, fuel, p, h1, h2, h3, h4⟩
    · exact laidVars_at h5 n d e
theorem cell_of_laid_iface {P : Program} {w : World} {l : List (String × DataW Unit)} (hL : laidMet P l w) {n name : String} {d : DataW Unit} {g : Nat} {ti : TypeId} {ms : Array (String × TypeId)} (hm : (n, .iface name d) ∈ l) (hg : P.globalNamed n = some g)
    (ht : (P.globals[g]?).map (·.type) = some ti) (hi : P.underlying ti = some (.interface ms)) : ∃ v, w.cell? ⟨g, 0, none⟩ = some v ∧ (v = .nilIface ∨ ∃ te pe, v = .iface te pe) := by
  obtain ⟨ps, hv, _⟩ := hL
  obtain ⟨g', t', cs, fuel, p, h1, h2, h3, h4⟩ := laidVars_at hv n _ hm
  obtain rfl : g = g' := Option.some.inj (hg.symm.trans h1)
  obtain rfl : ti = t' := Option.some.inj (ht.symm.trans h2)
  obtain ⟨_, u, v, hcs, _⟩ := iface_of_trod hi h4
  have hc := World.var?_cell hg h3 0
  rw [Array.eq_one_of_toList hcs] at hc
  exact ⟨.iface u v, by simpa using hc, .inr ⟨u, v, rfl⟩⟩
end Go.AL

namespace Go.AL
open Go Go.RowKit
set_option linter.unusedSimpArgs false
set_option linter.unusedVariables false
set_option linter.unusedSectionVars false
variable [Inhabited Glob]
/-! ### A map that a variable of the program's own holds: the load, what lies between, the look-up -/
theorem OpOK.wpV {P : Program} {E : Ent} {s : AS} {op : Op} {ty : TypeId} {K : AV → AS → Prop} (h : OpOK P E s op ty K) {dst : Option Nat} {pos : String} {after : Array Edge} {guard : Option (Nat × Bool)}
    {a : Act} {w : World} (hs : Sim E s a w) (hd : ∀ d, dst = some d → d < E.n) {Q : Exit → Act → World → Prop} {N : Act → World → Prop} {t : Nat} (ht : dst ≠ some t)
    (hn : ∀ v s', K v s' → s'.env = s.env → ∀ a' w', Sim E (s'.put dst v) a' w' → a'.tmps.getD t undef = a.tmps.getD t undef → N a' w') : (Oper.mk dst op ty pos after guard).wp P a w N Q := by
  have hput : ∀ x, (a.put dst x).tmps.getD t undef = a.tmps.getD t undef := fun x => by
    cases dst with
    | none => rfl
    | some d =>
      have hne : d ≠ t := fun e => ht (by rw [e])
      simp [Act.put, Array.getD_eq_getD_getElem?, Array.getElem?_setIfInBounds, hne]
  rcases h a w hs with ⟨x, w', h1, v, s', h2, h3, h4⟩ | ⟨w', h1, v, s', h2, h3, h4⟩ | ⟨f, args, h1, h2⟩
  · exact wp_of_value (h1 dst pos after guard) (hn v s' h2 h3 _ _ (h4.sim dst hs.sz hs.df hd) (hput _))
  · exact wp_of_skip (h1 dst pos after guard) (hn v s' h2 h3 _ _ (h4.sim dst hs.sz hs.df hd) (hput _))
  · unfold Oper.wp
    rw [h1 dst pos after guard]
    refine Calls.mono h2 fun e w' ⟨x, he, v, s', h3, h4, h5⟩ => ?_
    subst he
    exact hn v s' h3 h4 _ _ (h5.sim dst hs.sz hs.df hd) (hput _)
/-- As 'Sem'; a slot holds a value. -/
def SemV (P : Program) (E : Ent) (all : Array Oper) (l : List Oper) (Q : Exit → AS → Prop) (t : Nat) (v : Value) (s : AS) : Prop :=
  (l.all fun o => o.dst.all fun d => decide (d < E.n)) = true → ∀ (a : Act) (w : World), Sim E s a w → a.tmps.getD t undef = v → wpList P all (fun e a' w' => ∃ s', Q e s' ∧ Sim E s' a' w') l a w
theorem rvc_soundV {P : Program} {TT : Tab P} {E : Ent} {all : Array Oper} {K : AS → Prop} {Q : Exit → Act → World → Prop} {suf : List Oper} {t : Nat} {u : Value} (hq : ∀ s' a' w', K s' → Sim E s' a' w' → a'.tmps.getD t undef = u → wpList P all Q suf a' w') :
    ∀ (rest : List Oper) (s : AS) (a : Act) (w : World), (rest.all fun o => o.dst.all fun d => decide (d < E.n)) = true → (rest.all fun o => o.guard.isNone && o.dst != some t) = true → Sim E s a w → a.tmps.getD t undef = u → rvc TT E (all.toList.map (·.dst)) rest s K → wpList P all Q (rest ++ suf) a w := by
  intro rest
  induction rest with
  | nil => intro s a w _ _ hs hu h; exact hq s a w h hs hu
  | cons o rest ih =>
    intro s a w hd hg hs hu h
    obtain ⟨dst, op, ty, pos, after, guard⟩ := o
    simp only [List.all_cons, Bool.and_eq_true] at hd hg
    obtain ⟨⟨hg1, hg2⟩, hg3⟩ := hg
    have hne : dst ≠ some t := by simpa using hg2
    obtain rfl : guard = none := by simpa using hg1
    have hdst : ∀ d, dst = some d → d < E.n := fun d hdd => by
      have := hd.1
      simp only [hdd, Option.all_some, decide_eq_true_eq] at this
      exact this
    have hstep := step_ok (P := P) (E := E) (s := s) (ty := ty) TT op
    rw [List.cons_append]
    simp only [rvc] at h
    refine wpList_plain rfl fun K' hK' => ?_
    cases hst : stp TT s op with
    | ok pre fact v s' =>
      rw [hst] at h hstep
      refine (hstep h.1).wpV hs hdst hne fun v0 s0 ⟨h1, h2, h3⟩ _ a' w' hs' hu' => hK' _ _ ?_
      subst h2; subst h3
      exact ih _ a' w' hd.2 hg3 hs' (hu'.trans hu) (h.2 h1)
    | call f args =>
      rw [hst] at h hstep
      exact (hstep _ h).wpV hs hdst hne fun v0 s0 hk _ a' w' hs' hu' => hK' _ _ (ih _ a' w' hd.2 hg3 hs' (hu'.trans hu) hk)
    | stop => rw [hst] at h; exact h.elim
section
variable {P : Program} {E : Ent} {all : Array Oper} {Q : Exit → AS → Prop} {s : AS} {rest l : List Oper} {ty : TypeId} {pos : String} {after : Array Edge}
/-- What lies between. -/
theorem semV_cut (TT : Tab P) (k : Nat) {t : Nat} {u : Value} (hg : ((l.take k).all fun o => o.guard.isNone && o.dst != some t) = true)
    (h : ∀ K : AS → Prop, (∀ s', SemV P E all (l.drop k) Q t u s' → K s') → rvc TT E (all.toList.map (·.dst)) (l.take k) s K) : SemV P E all l Q t u s := fun hd a w hs hu => by
  have h1 : ((l.take k).all fun o => o.dst.all fun d => decide (d < E.n)) = true := List.all_eq_true.2 fun o ho => List.all_eq_true.1 hd o (List.mem_of_mem_take ho)
  have h2 : ((l.drop k).all fun o => o.dst.all fun d => decide (d < E.n)) = true := List.all_eq_true.2 fun o ho => List.all_eq_true.1 hd o (List.mem_of_mem_drop ho)
  have key := rvc_soundV (TT := TT) (all := all) (K := SemV P E all (l.drop k) Q t u) (Q := fun e a' w' => ∃ s', Q e s' ∧ Sim E s' a' w') (suf := l.drop k) (fun s' a' w' hk hs' hu' => hk h2 a' w' hs' hu') (l.take k) s a w h1 hg hs hu (h _ fun _ h => h)
  rw [List.take_append_drop] at key
  exact key
/-- What a look-up in the map at a variable gives, whatever else the world holds. -/
def LookG (P : Program) (g T : Nat) (key : DV) (r : DV) : Prop := ∀ (w0 : World) (S : Nat → Prop), (default : Glob).ok w0 S → ∃ m, ∀ w : World, (∀ b, S b → w.heap[b]? = w0.heap[b]?) → w.cell? ⟨g, 0, none⟩ = some m ∧
  ∀ I τ v, RepD I τ key v → ∃ x, (Instr.lookup T m v false).run P w = .ok x w ∧ ∀ I' τ', RepD I' τ' r x
theorem Sim.gsame {a : Act} {w : World} (hs : Sim E s a w) : ∀ b, E.gs b → w.heap[b]? = E.w0.heap[b]? := fun b hb => by
  obtain ⟨I, τ, ρ, h, _⟩ := hs.ex
  obtain ⟨h1, h2, h3⟩ := E.gb b hb
  exact h.blk b h1 ⟨h2, h3⟩
theorem run_load_map {T kt et : TypeId} {w : World} {g : Nat} {m : Value} (hd : P.underlying T = some (.map kt et)) (hm : w.cell? ⟨g, 0, none⟩ = some m) : (loadVar T ⟨g, 0, none⟩).run P w = .ok m w := by
  unfold loadVar
  simp [isAgg, run_underlying hd, run_load, hm]
theorem sem_glook (TT : Tab P) (k : Nat) {g T kt et t : Nat} {d2 : Option Nat} {y : Operand} {ty2 : TypeId} {pos2 : String} {after2 : Array Edge} {key r : DV} (hL : LookG P g T key r) (hd : P.underlying T = some (.map kt et))
    (hg : ((l.take k).all fun o => o.guard.isNone && o.dst != some t) = true) (hl : l.drop k = ⟨d2, .lookup T (.tmp t) y false, ty2, pos2, after2, none⟩ :: rest)
    (h : ∀ K : AS → Prop, (∀ s', (ev s' y = .d key ∧ Sem P E all rest Q (s'.put d2 (.d r))) → K s') → rvc TT E (all.toList.map (·.dst)) (l.take k) (s.put (some t) .unk) K) :
    Sem P E all (⟨some t, .load T (.global g), ty, pos, after, none⟩ :: l) Q s := fun hdst a w hs => by
  obtain ⟨m, hm⟩ := hL E.w0 E.gs E.gl
  simp only [List.all_cons, Bool.and_eq_true] at hdst
  have ht : t < E.n := by simpa using hdst.1
  refine wpList_plain rfl fun K' hK' => ?_
  have hrun : ∀ dst pos after guard, (execOp a.eval ⟨dst, .load T (.global g), ty, pos, after, guard⟩).run P w = .ok (.value m) w := fun _ _ _ _ => by
    have h1 := run_load_map hd (hm w hs.gsame).1
    have h2 : a.eval (.global g) = .pointer (some ⟨g, 0, none⟩) := rfl
    simp [execOp, h2, Instr.loadAt, Instr.sureAddr, h1]
  obtain ⟨I, τ, ρ, h1, h2⟩ := hs.ex
  have hsim : Sim E (s.put (some t) .unk) (a.put (some t) m) w := by
    have hres : Res E s a .unk m w := ⟨I, τ, ρ, h1, h2, .unk m⟩
    exact hres.sim (some t) hs.sz hs.df (fun d hd => by cases hd; exact ht)
  have hget : (a.put (some t) m).tmps.getD t undef = m := by
    have hsz : t < a.tmps.size := by rw [hs.sz]; exact ht
    simp [Act.put, Array.getD_eq_getD_getElem?, Array.getElem?_setIfInBounds, hsz]
  refine wp_of_value (hrun _ _ _ _) (hK' _ _ ?_)
  refine semV_cut TT k (u := m) (t := t) (Q := Q) hg (fun K hK => h K fun s' hs' => hK s' ?_) hdst.2 _ _ hsim hget
  obtain ⟨hy, hrest⟩ := hs'
  rw [hl]
  intro hdst2 a2 w2 hs2 hu2
  simp only [List.all_cons, Bool.and_eq_true] at hdst2
  refine wpList_plain rfl fun K2 hK2 => ?_
  obtain ⟨I2, τ2, ρ2, g1, g2⟩ := hs2.ex
  have hyv := ev_rep g2 y
  rw [hy] at hyv
  have hkd : RepD I2 τ2 key (a2.eval y) := by cases hyv with | d _ _ h => exact h
  obtain ⟨x, hx1, hx2⟩ := (hm w2 hs2.gsame).2 I2 τ2 _ hkd
  have hev : a2.eval (.tmp t) = m := hu2
  refine wp_of_value (x := x) (w' := w2) (by simp [execOp, hev, hx1]) (hK2 _ _ ?_)
  refine hrest hdst2.2 _ _ ?_
  have hres : Res E s' a2 (.d r) x w2 := ⟨I2, τ2, ρ2, g1, g2, .d _ _ (hx2 _ _)⟩
  exact hres.sim d2 hs2.sz hs2.df (fun d hd => by
    have := hdst2.1
    simp only [hd, Option.all_some, decide_eq_true_eq] at this
    exact this)
end
end Go.AL

namespace Go.AL
open Go Go.RowKit Go.ChangeShapes Go.WideShapes Go.ChangeAt
set_option linter.unusedSectionVars false
variable [Inhabited Glob]
set_option linter.unusedSimpArgs false
set_option linter.unusedVariables false
theorem trodVars_len {H : Type} {enc : TypeId × Value → H} {P : Program} {w : World} {sp : Nat → Bool} : ∀ {ns : List String} {gs : List (DataW H)} {ps : List MemPlace}, DataW.TrodVars enc P w sp ns gs ps → gs.length = ns.length
  | [], [], _, _ => rfl
  | [], _ :: _, _, h => h.elim
  | _ :: _, [], _, h => h.elim
  | _ :: ns, _ :: gs, _, h => by
    obtain ⟨_, _, _, _, _, _, _, _, _, _, h, _⟩ := h
    simp [trodVars_len h]
/-- From a law's contract to its row: listed variables that the specification reads. -/
theorem lifted_rowV {C : Checked} {os : Os} {H : Type} {enc : TypeId × Value → H} (TT : Tab C.prog) (L : List Nat) (hL : closedT TT.T L = true) {f : FuncId} {fn : Func} {s : ChangeSpec} {conds : List PathCond} {laid : List (String × DataW Unit)} (ts : List TypeId) (bt : TypeId)
    (hG : ∀ w : World, w.ShapedOpen C.prog → laidMetH C.prog laid w → (default : Glob).ok w fun b => b < w.heap.size) (hlaid : laidOutB C.prog = true) (hps : fn.params.toList = ts) (hin : (ts.all fun t => L.contains t) = true) (hrd : (ts.all fun t => C.prog.readableRec t && decide (t < C.prog.types.size)) = true)
    (hres : fn.resultTypes = #[bt]) (hbt : C.prog.underlying bt = some .bool) (hvars : varsRowed C.prog s.vars = true)
    (hspec : ∀ ds gs : List (DataW H), ds.length = ts.length → gs.length = s.vars.length → s.fn H (ds ++ gs) = { results := [.lit (.bool true)], args := ds, vars := gs })
    (law : ∀ as, ConfAll TT.T ts as → Gives C.prog f as (.d (.bool true)))
    (own : ownKnob C.prog.godebug = none) (started : os.Started) (noInit : C.prog.inits.idxOf? f = none) (hfn : C.prog.funcs[f]? = some fn)
    (witness : ∃ (w : World) (tape : Tape) (i : Input), w.os = os ∧ (w.forCall tape i).Shaped C.prog ∧ i.vars = [] ∧ Input.okWide C.prog (w.forCall tape i) .any w.heap.size f i ∧
      (OpenSpec.ofChange s).preRow enc C.prog fn conds false laid (w.forCall tape i).memory i.args ∧ ({} : Assume).holds C.prog (lone (Frame.enter C.prog f i.args .normal) [] (w.forCall tape i))) :
    ReturnsInHanded {} C os f .any ((OpenSpec.ofChange s).preRow enc C.prog fn conds false laid) (s.post enc C.prog fn false true false false) := by
  refine returnsInHanded_of_row (s := OpenSpec.ofChange s) (F := fun _ _ _ => 0) own started noInit hfn witness ?_
  intro W base args ds gs before hval hW _ _ _ hLd hSh _
  show Calls C.prog f args W fun e W' => ∃ v, e = .returned v ∧ s.post enc C.prog fn false true false false W args v W'
  have hW : DataW.Whole enc C.prog fn.params.toList s.vars false W args.toList ds gs before := hW
  have hW' := hW
  obtain ⟨p, q, hA, hV, rfl, hfz, hnd⟩ := hW
  have hV := show DataW.TrodVars enc C.prog W (fun _ => true) s.vars gs q from hV
  have hlt : ∀ x ∈ p, x.block < W.heap.size := fun x hx => hW'.lt x (by simp [hx])
  rw [hps] at hA
  have hdl : ds.length = ts.length := trodAll_len _ _ _ _ hA
  have hgl : gs.length = s.vars.length := trodVars_len hV
  obtain ⟨as, h1, h2⟩ := open_args (base := base) TT L hL ts args.toList ds p (fun t ht => by have := List.all_eq_true.1 hin t ht; simpa using this) (fun j t v ht hv => hval j t v (by rw [← Array.getElem?_toList, hps]; exact ht) (by rw [← Array.getElem?_toList]; exact hv)) hA
  have hr := run_pure (R := fun v => v = .d (.bool true)) (hG W hSh hLd) (law as h1) h2
  rw [Array.toArray_toList] at hr
  refine hr.mono fun e W' ⟨x, r, I, τ, ρ, he, hr, hx, hb⟩ => ?_
  subst hr
  obtain rfl := rep_bool hx
  subst he
  refine ⟨_, rfl, ds, gs, p ++ q, [], p, q, hW', ?_, ?_, ?_, keptBut_below hb, fun h => by cases h⟩
  · rw [hspec ds gs hdl hgl, hres]
    exact trodAll_mk1 (shut_bool hbt true)
  · rw [hspec ds gs hdl hgl, hps]
    exact below_args hlaid hb ts args.toList ds p hrd hlt hA
  · rw [hspec ds gs hdl hgl]
    exact Below.trodVars hlaid hb hvars hV
end Go.AL

namespace Go.AL
open Go Go.RowKit
set_option linter.unusedSectionVars false
variable [Inhabited Glob]
set_option linter.unusedSimpArgs false
set_option linter.unusedVariables false
/-! ### A function of the library that hands back an empty slice with room of its own -/
end Go.AL

namespace Go.AL
open Go Go.RowKit
set_option linter.unusedSectionVars false
variable [Inhabited Glob]
set_option linter.unusedSimpArgs false
set_option linter.unusedVariables false
/-! ### A function that was lent no rows -/
def ACN (P : Program) (g : FuncId) (args : List AV) (objs : List AO) (R : Nat → AV → List AO → List Nat → Nat → Prop) : Prop :=
  CallOK P g ∧ ∀ (E : Ent) (vs : List Value), (∀ b, ¬E.lb b) → E.k = objs.length → St E objs [] E.nt0 E.I0 E.τ0 E.ρ0 E.w0 → RepAs E.I0 E.τ0 E.ρ0 objs.length args vs →
    Calls P g vs.toArray E.w0 fun e w' => ∃ x, e = .returned x ∧ ∃ r objs' toks' nt' I' τ' ρ', R E.nt0 r objs' toks' nt' ∧ St E objs' toks' nt' I' τ' ρ' w' ∧ RepA I' τ' ρ' objs'.length r x
section
variable {P : Program} (TT : Tab P) (E : Ent) {all : List (Option Nat)} {s : AS} {K : AS → Prop} {dst : Option Nat} {rest : List Oper} {g : FuncId} {args : List AV}
end
/-! ### Regions, up to an operation -/
section
variable {P : Program} {E : Ent} {all : Array Oper} {Q : Exit → AS → Prop} {s : AS} {rest l : List Oper} {dst : Option Nat} {ty : TypeId} {pos : String} {after : Array Edge}
end
/-! ### Texts in a slice that a variable holds, rewritten in place -/
def encT1 (s : List UInt8) : List DV := [.str s]
/-- g puts f zs where zs stood; what it hands back. -/
def InG (P : Program) (g : FuncId) (f : List (List UInt8) → List (List UInt8)) (ret : Nat → Nat → Nat → Value) : Prop :=
  CallOK P g ∧ (∀ zs, (f zs).length ≤ zs.length) ∧ ∀ (w : World) (b cap : Nat) (zs : List (List UInt8)) (arr : Array Value) (T : TypeId), w.heap[b]? = some (.cells arr T (0, 0)) → arr.size = cap → cap ≤ 9223372036854775807 → zs.length ≤ cap → zs.length < 4611686018427387904 → (∀ (j : Nat) z, zs[j]? = some z → arr[j]? = some (.string ⟨z.toArray⟩)) →
    Calls P g [Value.slice (some ⟨b, 0, none⟩) zs.length cap].toArray w fun e w' => e = .returned (ret b cap (f zs).length) ∧ (∃ arr', w'.heap[b]? = some (.cells arr' T (0, 0)) ∧ arr'.size = arr.size ∧ ∀ (j : Nat) z, (f zs)[j]? = some z → arr'[j]? = some (.string ⟨z.toArray⟩)) ∧ FrameW [b] w w'
def scP : AV → Bool
  | .d c => isSc c
  | .ptr _ _ => true
  | _ => false
section
variable {P : Program} {E : Ent} {all : Array Oper} {Q : Exit → AS → Prop} {s : AS} {rest : List Oper}
end
end Go.AL
