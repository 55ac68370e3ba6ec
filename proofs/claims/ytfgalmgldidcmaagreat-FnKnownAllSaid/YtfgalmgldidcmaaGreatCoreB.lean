/- The abstract logic, B: appends, calls, one step, the rules over code. -/
import Derived.Test.YtfgalmgldidcmaaGreatCoreA
import Derived.Orders
set_option linter.unusedVariables false
set_option linter.unusedSimpArgs false
set_option linter.unusedSectionVars false
namespace Go.AL
open Go
set_option linter.unusedSectionVars false
variable [Inhabited Glob]
set_option linter.unusedSimpArgs false

section
variable {P : Program} {E : Ent} {s : AS} {ty : TypeId} {K : AV → AS → Prop}

/-- The cells of a slice's elements, one behind the other. -/
theorem cells_flat {I : IH} {τ : TH} {sz : Nat} {xs : List (List DV)} {own : Own} {adr : Addr} {n cap : Nat} (h : RepD I τ (.sl sz xs own) (.slice (some adr) n cap)) :
    n = xs.length ∧ ∃ vs : List Value, vs.length = xs.length * sz ∧ (∀ (j : Nat) v, vs[j]? = some v → I adr.block (adr.off + j) = some v) ∧ RepL I τ xs.flatten vs := by
  cases h with
  | sl _ _ _ _ _ vals hs hcap hmax hnil hadr hI hrep hown =>
    refine ⟨rfl, ?_⟩
    have hI' := hI adr rfl
    clear hI hadr hown hnil hcap hmax
    have key : ∀ (ys : List (List DV)) (k : Nat), (∀ (i : Nat) y, ys[i]? = some y → xs[k + i]? = some y) →
        ∃ vs : List Value, vs.length = ys.length * sz ∧ (∀ (j : Nat) v, vs[j]? = some v → I adr.block (adr.off + (k * sz + j)) = some v) ∧ RepL I τ ys.flatten vs := by
      intro ys
      induction ys with
      | nil => intro k _; exact ⟨[], by simp, by simp, RepL.nil I τ⟩
      | cons y ys ih =>
        intro k hk
        obtain ⟨vs, h1, h2, h3⟩ := ih (k + 1) (fun i z hz => by
          have := hk (i + 1) z (by simpa using hz)
          rwa [show k + (i + 1) = k + 1 + i from by omega] at this)
        have hy := hk 0 y rfl
        simp only [Nat.add_zero] at hy
        have hyl : y.length = sz := hs _ (List.mem_of_getElem? hy)
        have hget : ∀ j, j < sz → ((List.range sz).map fun j => vals (k * sz + j))[j]? = some (vals (k * sz + j)) := fun j hj => by
          simp [List.getElem?_range hj]
        refine ⟨((List.range sz).map fun j => vals (k * sz + j)) ++ vs, ?_, fun j v hv => ?_, ?_⟩
        · simp [h1, Nat.add_mul]; omega
        · by_cases hj : j < sz
          · rw [List.getElem?_append_left (by simpa using hj), hget j hj] at hv
            cases hv
            exact hI' k y j _ hy (List.getElem?_eq_getElem (by omega))
          · rw [List.getElem?_append_right (by simp; omega)] at hv
            have := h2 _ v hv
            simp only [List.length_map, List.length_range, Nat.add_mul] at this
            rwa [show k * sz + 1 * sz + (j - sz) = k * sz + j from by omega] at this
        · simp only [List.flatten_cons]
          refine RepL.append ⟨by simp [hyl], fun j c v hc hv => ?_⟩ h3
          have hj : j < sz := by rw [← hyl]; exact (List.getElem?_eq_some_iff.1 hc).1
          rw [hget j hj] at hv
          cases hv
          exact hrep k y j c hy hc
    obtain ⟨vs, h1, h2, h3⟩ := key xs 0 (fun i y hy => by simpa using hy)
    exact ⟨vs, h1, fun j v hv => by simpa using h2 j v hv, h3⟩

theorem flat_get {sz : Nat} : ∀ {xs : List (List DV)}, (∀ x ∈ xs, x.length = sz) → ∀ {i : Nat} {x : List DV} {j : Nat} {c : DV}, xs[i]? = some x → x[j]? = some c → xs.flatten[i * sz + j]? = some c
  | [], _, i, x, j, c, hx, _ => by simp at hx
  | y :: ys, hs, 0, x, j, c, hx, hc => by
    simp only [List.getElem?_cons_zero, Option.some.injEq] at hx
    subst hx
    simp only [List.flatten_cons, Nat.zero_mul, Nat.zero_add]
    rw [List.getElem?_append_left (List.getElem?_eq_some_iff.1 hc).1]
    exact hc
  | y :: ys, hs, i + 1, x, j, c, hx, hc => by
    simp only [List.getElem?_cons_succ] at hx
    have hy : y.length = sz := hs y (by simp)
    simp only [List.flatten_cons]
    rw [List.getElem?_append_right (by rw [hy, Nat.add_mul]; omega), hy]
    have := flat_get (fun z hz => hs z (by simp [hz])) hx hc
    rwa [show (i + 1) * sz + j - sz = i * sz + j from by rw [Nat.add_mul]; omega]

/-- A slice over cells that are known. -/
theorem RepD_of_flat {I : IH} {τ : TH} {sz : Nat} {zs : List (List DV)} {own : Own} {adr : Addr} {cap : Nat} {vs : List Value} (hs : ∀ x ∈ zs, x.length = sz) (hspot : adr.spot = none)
    (hcap : zs.length ≤ cap) (hmax : cap ≤ 9223372036854775807) (hI : ∀ (j : Nat) v, vs[j]? = some v → I adr.block (adr.off + j) = some v) (hr : RepL I τ zs.flatten vs)
    (hown : OwnOK τ own (some adr) zs.length sz cap) : RepD I τ (.sl sz zs own) (.slice (some adr) zs.length cap) := by
  refine .sl sz zs own (some adr) cap (fun k => vs.getD k undef) hs hcap hmax (by simp) (by rintro _ a ⟨⟩; exact hspot) ?_ ?_ hown
  · rintro a ⟨⟩ i x j c hx hc
    obtain ⟨v, hv, _⟩ := hr.get (flat_get hs hx hc)
    rw [hI _ _ hv]
    simp [List.getD, hv]
  · intro i x j c hx hc
    obtain ⟨v, hv, hd⟩ := hr.get (flat_get hs hx hc)
    simpa [List.getD, hv] using hd

def dropTok (own : Own) (toks : List Nat) : List Nat :=
  match own with
  | .tok t => toks.filter (· != t)
  | _ => toks

def tokOf (τ : TH) : Own → Option (Nat × Nat × Nat)
  | .tok t => τ t
  | _ => none

theorem op_append (TT : Tab P) {T e : Nat} {x y : Operand} {sz sz' : Nat} {xs ys : List (List DV)} {own own' : Own} {tys : Array TypeId} {z : List DV} (hx : ev s x = .d (.sl sz xs own)) (hy : ev s y = .d (.sl sz' ys own'))
    (htys : tys = #[T, T]) (ht : (TT.T T).t = .slice e) (hke : (TT.T e).t.known = true) (hz : (TT.T e).zero = some z) (hpos : 0 < (TT.T e).size) (hbpos : 0 < (TT.T e).bytes)
    (hsz : (TT.T e).size = sz ∨ (xs = [] ∧ own = .full)) (hsz' : (TT.T e).size = sz' ∨ ys = [])
    (hown : own = .full ∨ ∃ t, own = .tok t ∧ t ∈ s.toks) (hnew : own = .full → xs = [] ∨ ys ≠ [])
    (hlim : (xs.length + ys.length) * (TT.T e).bytes ≤ 140737488355328)
    (hK : K (.d (.sl (TT.T e).size (xs ++ ys) (.tok s.nt))) { s with toks := s.nt :: dropTok own s.toks, nt := s.nt + 1 }) : OpOK P E s (.call ⟨.builtin .append, #[x, y], tys⟩) ty K := by
  intro a w hsim
  obtain ⟨I, τ, ρ, h, h2⟩ := hsim.ex
  have hv := rep_sl (hx ▸ ev_rep h2 x)
  have hv' := rep_sl (hy ▸ ev_rep h2 y)
  have hd := (TT.ok T).desc
  simp only [ht] at hd
  obtain ⟨inf, hi1, hi2, hi3⟩ := info_of (TT.ok e) hke
  have hne : (TT.T e).t ≠ .other := by intro he; rw [he] at hke; cases hke
  obtain ⟨g1, g2, g3, g4⟩ := zeroValue_run (TT.ok e) hne hz w
  have hzc := zeroCells_eq g3 g4 g2
  have hzero : inf.zero = some (if (TT.T e).t.agg then Value.agg (z.map DV.zv).toArray else (z.map DV.zv).headD undef) := by
    have hinf := (TT.ok e).info
    cases hte : (TT.T e).t <;> simp only [hte, hz] at hinf <;> first
      | (obtain ⟨i, k1, _, _, k4, _⟩ := hinf; rw [hi1] at k1; cases k1; simpa [hte] using k4)
      | exact absurd hte hne
  generalize (if (TT.T e).t.agg then Value.agg (z.map DV.zv).toArray else (z.map DV.zv).headD undef) = zz at *
  have hzz : zz.cells.size = (TT.T e).size := by rw [hzc]; simpa using g3
  generalize hax : a.eval x = vx at *
  generalize hay : a.eval y = vy at *
  -- the sizes
  have hlen64 : xs.length + ys.length ≤ 140737488355328 := by
    have := Nat.mul_le_mul_left (xs.length + ys.length) hbpos
    omega
  have hsub : ∀ t ∈ dropTok own s.toks, t ∈ s.toks := by
    intro t ht
    unfold dropTok at ht
    split at ht
    · exact (List.mem_filter.1 ht).1
    · exact ht
  have hall : (∀ q ∈ xs, q.length = (TT.T e).size) ∧ ∀ q ∈ ys, q.length = (TT.T e).size := by
    cases hv with
    | sl _ _ _ _ _ _ k1 => cases hv' with
      | sl _ _ _ _ _ _ k2 =>
        constructor
        · rcases hsz with e1 | e1
          · rw [e1]; exact k1
          · rw [e1.1]; simp
        · rcases hsz' with e1 | e1
          · rw [e1]; exact k2
          · rw [e1]; simp
  have hallz : ∀ q ∈ xs ++ ys, q.length = (TT.T e).size := by
    intro q hq
    rcases List.mem_append.1 hq with hq | hq
    · exact hall.1 q hq
    · exact hall.2 q hq
  -- one form of both
  have hv1 : RepD I τ (.sl (TT.T e).size xs own) vx ∧ RepD I τ (.sl (TT.T e).size ys .no) vy := by
    constructor
    · rcases hsz with e1 | ⟨e1, e2⟩
      · rw [e1]; exact hv
      · subst e1; subst e2
        cases hv with
        | sl _ _ _ adr cap vals k1 hcap hmax hnil hadr hI hrep hownok =>
          exact .sl _ [] .full adr cap vals (by simp) hcap hmax hnil hadr (by simp) (by simp) hownok
    · cases hv' with
      | sl _ _ _ adr cap vals k1 hcap hmax hnil hadr hI hrep hownok =>
        rcases hsz' with e1 | e1
        · rw [e1]; exact .sl _ ys .no adr cap vals k1 hcap hmax hnil hadr hI hrep trivial
        · subst e1; exact .sl _ [] .no adr cap vals (by simp) hcap hmax hnil hadr (by simp) (by simp) trivial
  obtain ⟨hvx, hvy⟩ := hv1
  clear hv hv'
  obtain ⟨adr, n, cap, rfl⟩ : ∃ adr n cap, vx = .slice adr n cap := by cases hvx; exact ⟨_, _, _, rfl⟩
  obtain ⟨adr', m, cap', rfl⟩ : ∃ adr n cap, vy = .slice adr n cap := by cases hvy; exact ⟨_, _, _, rfl⟩
  have hfx : n = xs.length ∧ n ≤ cap ∧ cap ≤ 9223372036854775807 ∧ (adr = none → cap = 0) ∧ (0 < cap → ∀ a, adr = some a → a.spot = none) ∧ OwnOK τ own adr n (TT.T e).size cap := by
    cases hvx with
    | sl _ _ _ _ _ vals k1 hcap hmax hnil hadr hI hrep hownok => exact ⟨rfl, hcap, hmax, hnil, hadr, hownok⟩
  have hfy : m = ys.length ∧ (adr' = none → m = 0) ∧ (0 < m → ∀ a, adr' = some a → a.spot = none) := by
    cases hvy with
    | sl _ _ _ _ _ vals k1 hcap hmax hnil hadr hI hrep hownok => exact ⟨rfl, fun e => by have := hnil e; omega, fun hm => hadr (by omega)⟩
  obtain ⟨hn, hcap, hmax, hnil, hadr, hownok⟩ := hfx
  obtain ⟨hm, hnil', hadr'⟩ := hfy
  have hexec : ∀ dst pos after guard, (execOp a.eval ⟨dst, .call ⟨.builtin .append, #[x, y], tys⟩, ty, pos, after, guard⟩) = (do pure (.value (← Builtin.append_ #[T, T] ty #[.slice adr n cap, .slice adr' m cap']))) := by
    intro dst pos after guard
    simp [execOp, resolve, invoke, builtin, htys, hax, hay]
  -- what the old slice holds
  have hold : ∃ vs : List Value, vs.length = n * (TT.T e).size ∧ RepL I τ xs.flatten vs ∧ ∀ a, adr = some a → ∀ (j : Nat) v, vs[j]? = some v → I a.block (a.off + j) = some v := by
    cases adr with
    | none =>
      have : cap = 0 := hnil rfl
      have hx0 : xs = [] := List.eq_nil_of_length_eq_zero (by omega)
      subst hx0
      exact ⟨[], by simp at hn; simp [hn], RepL.nil I τ, by simp⟩
    | some a =>
      obtain ⟨_, vs, q1, q2, q3⟩ := cells_flat hvx
      exact ⟨vs, by rw [hn]; exact q1, q3, by rintro a' ⟨⟩; exact q2⟩
  have hnew : ∃ us : List Value, us.length = m * (TT.T e).size ∧ RepL I τ ys.flatten us ∧ ∀ a, adr' = some a → ∀ (j : Nat) v, us[j]? = some v → I a.block (a.off + j) = some v := by
    cases adr' with
    | none =>
      have : m = 0 := hnil' rfl
      have hx0 : ys = [] := List.eq_nil_of_length_eq_zero (by omega)
      subst hx0
      exact ⟨[], by simp [this], RepL.nil I τ, by simp⟩
    | some a =>
      obtain ⟨_, vs, q1, q2, q3⟩ := cells_flat hvy
      exact ⟨vs, by rw [hm]; exact q1, q3, by rintro a' ⟨⟩; exact q2⟩
  obtain ⟨vs, hvl, hvr, hvI⟩ := hold
  obtain ⟨us, hul, hur, huI⟩ := hnew
  have hboth : RepL I τ (xs ++ ys).flatten (vs ++ us) := by rw [List.flatten_append]; exact hvr.append hur
  have hzlen : (xs ++ ys).length = n + m := by simp [hn, hm]
  have hsumcells : (vs ++ us).length = (n + m) * (TT.T e).size := by simp [hvl, hul, Nat.add_mul]
  have hK' := hK
  by_cases hm0 : m = 0
  · -- nothing is appended
    have hy0 : ys = [] := List.eq_nil_of_length_eq_zero (by omega)
    subst hy0
    have hu0 : us = [] := List.eq_nil_of_length_eq_zero (by rw [hul, hm0]; simp)
    subst hu0
    have hrun : (Builtin.append_ #[T, T] ty #[.slice adr n cap, .slice adr' m cap']).run P w = .ok (.slice adr n cap) w := by
      subst hm0
      have hf : (Builtin.firstCells inf.size 0 (.slice adr' 0 cap')).run P w = .ok #[] w := by
        cases adr' <;> simp [Builtin.firstCells, loadCells, loadCellsFrom]
      cases adr with
      | none => simp [Builtin.append_, run_underlying hd, sizeOf, typeInfo, hi1, Builtin.lenOf, hcap, hf]
      | some a => simp [Builtin.append_, run_underlying hd, sizeOf, typeInfo, hi1, Builtin.lenOf, hcap, hf, storeCells]
    obtain ⟨q1, q2⟩ := (h.sub _ hsub).newTok (tokOf τ own) (by
      intro b e' r hb
      rcases hown with rfl | ⟨t, rfl, htk⟩
      · cases hb
      · simp only [tokOf] at hb
        obtain ⟨k1, k2⟩ := h.tok t htk
        obtain ⟨k3, k4, k5, k6⟩ := k2 b e' r hb
        refine ⟨k3, k4, k5, k6, fun u hu b' e'' r' hb' heq => ?_⟩
        simp only [dropTok, List.mem_filter, bne_iff_ne] at hu
        exact hu.2 (h.tokd u hu.1 t htk b' e'' r' b e' r hb' hb heq))
    have hext : Ext2 I τ ρ s.objs.length I _ ρ s.objs.length := ⟨q2, Nat.le_refl _, fun _ _ => rfl⟩
    refine .inl ⟨.slice adr n cap, w, fun dst pos after guard => by rw [hexec]; simp [hrun], _, _, hK', rfl, I, _, ρ, q1, fun t => (h2 t).mono hext, .d _ _ ?_⟩
    simp only [List.append_nil]
    have hx2 := hvx.mono q2
    cases hx2 with
    | sl _ _ _ _ _ vals k1 hcap hmax hnil hadr hI hrep hownok2 =>
      refine .sl _ xs _ adr cap vals k1 hcap hmax hnil hadr hI hrep ?_
      rcases hown with rfl | ⟨t, rfl, htk⟩
      · have hx0 : xs = [] := (hnew rfl).resolve_right (fun h => h rfl)
        subst hx0
        exact .inl hownok
      · rcases hownok with hc | ⟨b, hb, hab⟩
        · exact .inl hc
        · exact .inr ⟨b, by simp only [updT_new]; exact hb, hab⟩
  · have hmpos : 0 < m := by omega
    obtain ⟨a', rfl⟩ : ∃ a', adr' = some a' := by
      cases adr' with
      | none => exact absurd (hnil' rfl) hm0
      | some a' => exact ⟨a', rfl⟩
    have hucell : ∀ (j : Nat) v, us[j]? = some v → w.cell? (a'.add j) = some v := fun j v hv => by
      rw [Addr.add_eq a' (hadr' hmpos a' rfl)]
      exact h.iok _ _ _ (huI a' rfl j v hv)
    by_cases hfit : n + m ≤ cap
    · -- in place
      have hcn : cap ≠ n := by omega
      rcases hown with rfl | ⟨t, rfl, htk⟩
      · exact absurd hownok hcn
      rcases hownok with hc | ⟨b, hb, rfl⟩
      · omega
      obtain ⟨k1, k2⟩ := h.tok t htk
      obtain ⟨k3, ⟨cur, T', k4, k5⟩, k6, k7⟩ := k2 b _ _ hb
      have hroom : n * (TT.T e).size + us.length ≤ cap * (TT.T e).size := by
        rw [hul, ← Nat.add_mul]; exact Nat.mul_le_mul_right _ hfit
      obtain ⟨q1, q2⟩ := h.tokIn htk hb us hroom k4
      have hrun : (Builtin.append_ #[T, T] ty #[.slice (some ⟨b, 0, none⟩) n cap, .slice (some a') m cap']).run P w = .ok (.slice (some ⟨b, 0, none⟩) (n + m) cap) (w.setRow b (cur.toList.take (n * (TT.T e).size) ++ us ++ cur.toList.drop (n * (TT.T e).size + us.length)).toArray) := by
        have hf := run_firstCells_some (P := P) w inf.size m a' m cap' us (by rw [hi2]; exact hul) hucell
        have hst := run_storeCells_at P b (n * inf.size) T' us 0 cur w k4 (by rw [hi2, k5]; simpa using hroom) hur.one
        simp only [Nat.add_zero] at hst
        rw [hi2] at hf hst
        simp [Builtin.append_, run_underlying hd, sizeOf, typeInfo, hi1, Builtin.lenOf, hfit, hf, Addr.add_lit, hst, hi2]
      have hext : Ext2 I τ ρ s.objs.length _ _ ρ s.objs.length := ⟨q2, Nat.le_refl _, fun _ _ => rfl⟩
      refine .inl ⟨_, _, fun dst pos after guard => by rw [hexec]; simp only [Sem.run_bind, hrun, Result.andThen_ok, Sem.run_pure]; rfl, _, _, hK', rfl, _, _, ρ, q1, fun t => (h2 t).mono hext, .d _ _ ?_⟩
      have hb2 := hboth.mono q2
      have := RepD_of_flat (own := .tok s.nt) (adr := ⟨b, 0, none⟩) (cap := cap) hallz rfl (by rw [hzlen]; exact hfit) hmax (vs := vs ++ us) (fun j v hv => ?_) hb2 (.inr ⟨b, ?_, rfl⟩)
      · rw [hzlen] at this; exact this
      · simp only [Nat.zero_add]
        by_cases hj : j < vs.length
        · rw [List.getElem?_append_left hj] at hv
          have := hvI _ rfl j v hv
          simp only [Nat.zero_add] at this
          exact q2.i _ _ _ this
        · rw [List.getElem?_append_right (by omega)] at hv
          have hlt := (List.getElem?_eq_some_iff.1 hv).1
          unfold pubAt
          rw [if_pos ⟨rfl, by omega, by omega⟩, ← hvl]
          exact hv
      · rw [updT_new, hzlen, hul, ← Nat.add_mul]
    · -- a new block
      have hg : cap < n + m := by omega
      have h63 : ((n + m : Nat) : Int) ≤ 9223372036854775807 := by omega
      have hnm : (n + m) * inf.bytes ≤ 140737488355328 := by rw [hi3, hn, hm]; exact hlim
      have hgrow := growslice_fits (bytes := inf.bytes) hg hnm
      have hcapge := grownCap_ge w (n + m) cap e
      have hcapmax := grownCap_le_maxLen w (n + m) cap e (by simp only [maxLen]; omega)
      have hrun : (Builtin.append_ #[T, T] ty #[.slice adr n cap, .slice (some a') m cap']).run P w = .ok (.slice (some ⟨w.heap.size, 0, none⟩) (n + m) (grownCap w (n + m) cap e))
          (w.drew.alloc (.cells ((vs ++ us) ++ (Builtin.zeroCells zz.cells (grownCap w (n + m) cap e - (n + m))).toList).toArray e)) := by
        cases adr with
        | none =>
          have hc0 : cap = 0 := hnil rfl
          have hn0 : n = 0 := by omega
          have hv0 : vs = [] := List.eq_nil_of_length_eq_zero (by rw [hvl, hn0]; simp)
          subst hc0; subst hn0; subst hv0
          have := run_append_nil (P := P) w T ty e inf zz hd hi1 hzero a' m cap' us (by rw [hi2]; exact hul) hucell hmpos (by omega) (by have := hnm; simp only [Nat.zero_add] at this; omega)
          simp only [Nat.zero_add, List.nil_append]
          rw [this]
          congr 3
          apply Array.ext'
          simp
        | some ad =>
          have hvcell : ∀ (j : Nat) v, vs[j]? = some v → w.cell? (ad.add j) = some v := fun j v hv => by
            rw [Addr.add_eq ad (hadr (by have h0 := (List.getElem?_eq_some_iff.1 hv).1; rw [hvl] at h0; have h1 : 0 < n := Nat.pos_of_ne_zero (fun e => by rw [e] at h0; simp at h0); omega) ad rfl)]
            exact h.iok _ _ _ (hvI ad rfl j v hv)
          have := run_append_grow (P := P) w T ty e inf zz hd hi1 hzero ad n cap vs (by rw [hi2]; exact hvl) hvcell a' m cap' us (by rw [hi2]; exact hul) hucell hg h63 hgrow
          rw [this]
          congr 3
          apply Array.ext'
          simp
      have hzl : (Builtin.zeroCells zz.cells (grownCap w (n + m) cap e - (n + m))).toList.length = (grownCap w (n + m) cap e - (n + m)) * (TT.T e).size := by
        rw [Array.length_toList, size_zeroCells, hzz]
      generalize hzc' : (Builtin.zeroCells zz.cells (grownCap w (n + m) cap e - (n + m))).toList = zc at *
      generalize hgc : grownCap w (n + m) cap e = gc at *
      have hgcm : gc ≤ 9223372036854775807 := by simp only [maxLen] at hcapmax; exact hcapmax
      obtain ⟨p1, p2⟩ := h.drew.allocPre (vs ++ us) zc e
      have htot : (vs ++ us).length + zc.length = gc * (TT.T e).size := by
        rw [hsumcells, hzl, ← Nat.add_mul]
        congr 1
        omega
      obtain ⟨q1, q2⟩ := (p1.sub _ hsub).newTok (some (w.heap.size, (n + m) * (TT.T e).size, gc * (TT.T e).size)) (by
        rintro b' e' r' ⟨⟩
        refine ⟨.inl h.size, ⟨_, e, halloc_new w.drew _, ?_⟩, fun o ho => ?_, fun i hi => ?_, fun u hu b' e' r' hb' => ?_⟩
        · simp only [List.size_toArray, List.length_append] at htot ⊢; exact htot
        · simp only [pub, World.size_drew, if_true]
          exact List.getElem?_eq_none (by omega)
        · have := (h.objI i hi).1; omega
        · obtain ⟨_, k2⟩ := h.tok u (hsub u hu)
          obtain ⟨_, ⟨c, T', k4, _⟩, _⟩ := k2 b' e' r' hb'
          have := (Array.getElem?_eq_some_iff.1 k4).1
          omega)
      have hext : Ext2 I τ ρ s.objs.length _ _ ρ s.objs.length := ⟨⟨fun b o v hv => q2.i _ _ _ (p2.i _ _ _ hv), fun t v hv => q2.t _ _ (p2.t _ _ hv)⟩, Nat.le_refl _, fun _ _ => rfl⟩
      refine .inl ⟨_, _, fun dst pos after guard => by rw [hexec]; simp only [Sem.run_bind, hrun, Result.andThen_ok, Sem.run_pure]; rfl, _, _, hK', rfl, _, _, ρ, q1, fun t => (h2 t).mono hext, .d _ _ ?_⟩
      have hb2 := hboth.mono hext.toExt
      have := RepD_of_flat (own := .tok s.nt) (adr := ⟨w.heap.size, 0, none⟩) (cap := gc) hallz rfl (by rw [hzlen]; exact hcapge) hgcm (vs := vs ++ us) (fun j v hv => ?_) hb2 (.inr ⟨w.heap.size, ?_, rfl⟩)
      · rw [hzlen] at this; exact this
      · simp only [Nat.zero_add, pub, World.size_drew, if_true]
        exact hv
      · show updT τ s.nt _ s.nt = _
        rw [updT_new, hzlen]

end
end Go.AL

namespace Go.AL
open Go
set_option linter.unusedSectionVars false
variable [Inhabited Glob]
set_option linter.unusedSimpArgs false

/-! ### Calls -/

def CallOK (P : Program) (g : FuncId) : Prop := ∀ (args : Array Value) (w : World), (callFunc g args).run P w = .ok (.enter g args) w

def RepAs (I : IH) (τ : TH) (ρ : Nat → Nat) (n : Nat) (vs : List AV) (xs : List Value) : Prop :=
  vs.length = xs.length ∧ ∀ (i : Nat) v x, vs[i]? = some v → xs[i]? = some x → RepA I τ ρ n v x

/-- What a function does, told of abstract values. 'objs': what the variables hold that are handed in by pointers. -/
structure AC (P : Program) (g : FuncId) (args : List AV) (objs : List AO) (R : Nat → AV → List AO → List Nat → Nat → Prop) : Prop where
  call : CallOK P g
  run : ∀ (E : Ent) (vs : List Value), E.k = objs.length → St E objs [] E.nt0 E.I0 E.τ0 E.ρ0 E.w0 → RepAs E.I0 E.τ0 E.ρ0 objs.length args vs →
    Calls P g vs.toArray E.w0 fun e w' => ∃ x, e = .returned x ∧ ∃ r objs' toks' nt' I' τ' ρ', R E.nt0 r objs' toks' nt' ∧ St E objs' toks' nt' I' τ' ρ' w' ∧ RepA I' τ' ρ' objs'.length r x

theorem AC.mono {P : Program} {g : FuncId} {args : List AV} {objs : List AO} {R R' : Nat → AV → List AO → List Nat → Nat → Prop} (h : AC P g args objs R) (hr : ∀ n r o t m, R n r o t m → R' n r o t m) : AC P g args objs R' :=
  ⟨h.call, fun E vs h1 h2 h3 => (h.run E vs h1 h2 h3).mono fun _ _ ⟨x, he, r, o, t, m, I, τ, ρ, hR, hS, hA⟩ => ⟨x, he, r, o, t, m, I, τ, ρ, hr _ _ _ _ _ hR, hS, hA⟩⟩

/-- A call, in the middle of a walk. -/
def CallV (P : Program) (E : Ent) (s : AS) (g : FuncId) (args : List AV) (K : AV → AS → Prop) : Prop :=
  CallOK P g ∧ ∀ (a : Act) (w : World) I τ ρ (vs : List Value), St E s.objs s.toks s.nt I τ ρ w → (∀ t, RepA I τ ρ s.objs.length (getE s.env t) (a.tmps.getD t undef)) → RepAs I τ ρ s.objs.length args vs →
    Calls P g vs.toArray w fun e w' => ∃ x, e = .returned x ∧ ∃ v s', K v s' ∧ s'.env = s.env ∧ Res E s' a v x w'

def capsV (caps : List Nat) : List AV := caps.map fun o => AV.ptr o 0

theorem op_call {P : Program} {E : Ent} {s : AS} {ty : TypeId} {K : AV → AS → Prop} {f : Operand} {args : Array Operand} {tys : Array TypeId} {g : FuncId} {caps : List Nat} (hf : ev s f = .fn g caps)
    (h : CallV P E s g (args.toList.map (ev s) ++ capsV caps) K) : OpOK P E s (.call ⟨.value f, args, tys⟩) ty K := by
  intro a w hs
  obtain ⟨I, τ, ρ, h1, h2⟩ := hs.ex
  have hfv := ev_rep h2 f
  rw [hf] at hfv
  generalize hy : a.eval f = fv at *
  cases hfv with
  | fn _ _ hcaps =>
    refine .inr (.inr ⟨g, (args.toList.map a.eval ++ caps.map fun o => Value.pointer (some ⟨ρ o, 0, none⟩)).toArray, fun _ _ _ _ => ?_, ?_⟩)
    · have e : args.map a.eval ++ (caps.map fun o => Value.pointer (some ⟨ρ o, 0, none⟩)).toArray = (args.toList.map a.eval ++ caps.map fun o => Value.pointer (some ⟨ρ o, 0, none⟩)).toArray := by
        apply Array.ext'
        simp
      simp only [execOp, resolve, hy, Deferred.ofValue, pure_bind, invoke, Array.empty_append, e]
      exact h.1 _ w
    · refine h.2 a w I τ ρ _ h1 h2 ⟨by simp [capsV], fun i v x hv hx => ?_⟩
      by_cases hi : i < args.toList.length
      · rw [List.getElem?_append_left (by simpa using hi)] at hv hx
        simp only [List.getElem?_map, Option.map_eq_some_iff] at hv hx
        obtain ⟨p, hp, rfl⟩ := hv
        obtain ⟨q, hq, rfl⟩ := hx
        rw [hp] at hq
        cases hq
        exact ev_rep h2 p
      · rw [List.getElem?_append_right (by simpa using hi)] at hv hx
        simp only [capsV, List.length_map, List.getElem?_map, Option.map_eq_some_iff] at hv hx
        obtain ⟨p, hp, rfl⟩ := hv
        obtain ⟨q, hq, rfl⟩ := hx
        rw [hp] at hq
        cases hq
        exact .ptr _ _ (hcaps _ (List.mem_of_getElem? hp))

/-! ### Names of objects change at a call -/

def rnO (is : List Nat) (len : Nat) (o : Nat) : Nat := if o < is.length then is.getD o 0 else len + (o - is.length)

mutual
def AV.rn (is : List Nat) (len : Nat) : AV → AV
  | .ptr o off => .ptr (rnO is len o) off
  | .arr o m sz => .arr (rnO is len o) m sz
  | .map o => .map (rnO is len o)
  | .fn f caps => .fn f (caps.map (rnO is len))
  | .tup vs => .tup (rnL is len vs)
  | .d c => .d c
  | .agg cs => .agg cs
  | .elem cs => .elem cs
  | .nilI => .nilI
  | .errI => .errI
  | .nofn => .nofn
  | .unk => .unk
def rnL (is : List Nat) (len : Nat) : List AV → List AV
  | [] => []
  | v :: vs => v.rn is len :: rnL is len vs
end

theorem rnL_eq (is : List Nat) (len : Nat) (l : List AV) : rnL is len l = l.map (AV.rn is len) := by induction l <;> simp_all [rnL]

theorem RepA.rn {I : IH} {τ : TH} {ρ ρ' : Nat → Nat} {n n' : Nat} {is : List Nat} {len : Nat} (hn : ∀ o, o < n → rnO is len o < n') (hρ : ∀ o, o < n → ρ' (rnO is len o) = ρ o) {v : AV} {x : Value} (h : RepA I τ ρ n v x) :
    RepA I τ ρ' n' (v.rn is len) x := by
  induction h with
  | d c v hd => simp only [AV.rn]; exact .d c v hd
  | agg cs vs hl => simp only [AV.rn]; exact .agg cs vs hl
  | ptr o off ho => simp only [AV.rn]; rw [← hρ o ho]; exact .ptr _ off (hn o ho)
  | elem cs vs adr hs hl hI => simp only [AV.rn]; exact .elem cs vs adr hs hl hI
  | arr o m sz ho hm => simp only [AV.rn]; rw [← hρ o ho]; exact .arr _ m sz (hn o ho) hm
  | map o ho => simp only [AV.rn]; rw [← hρ o ho]; exact .map _ (hn o ho)
  | fn f caps hc =>
    simp only [AV.rn]
    have e : (caps.map fun o => Value.pointer (some ⟨ρ o, 0, none⟩)) = (caps.map (rnO is len)).map fun o => Value.pointer (some ⟨ρ' o, 0, none⟩) := by
      rw [List.map_map]
      exact List.map_congr_left fun o ho => by simp only [Function.comp_apply]; rw [hρ o (hc o ho)]
    rw [e]
    refine .fn f _ fun o ho => ?_
    obtain ⟨p, hp, rfl⟩ := List.mem_map.1 ho
    exact hn p (hc p hp)
  | tup vs ws hl _ ih =>
    simp only [AV.rn, rnL_eq]
    refine .tup _ ws (by simpa using hl) fun i v w hv hw => ?_
    simp only [List.getElem?_map, Option.map_eq_some_iff] at hv
    obtain ⟨u, hu, rfl⟩ := hv
    exact ih i u w hu hw
  | nilI => simp only [AV.rn]; exact .nilI
  | errI t v => simp only [AV.rn]; exact .errI t v
  | nofn => simp only [AV.rn]; exact .nofn
  | unk v => simp only [AV.rn]; exact .unk v

def AV.scopedT (m : Nat) : AV → Bool
  | .ptr o _ => decide (o < m)
  | .arr o _ _ => decide (o < m)
  | .map o => decide (o < m)
  | .fn _ caps => caps.all fun o => decide (o < m)
  | .tup _ => false
  | _ => true

/-- The objects behind a call. -/
def putObjs (objs : List AO) : List Nat → List AO → List AO
  | i :: is, o :: os => putObjs (objs.set i o) is os
  | _, os => objs ++ os

theorem putObjs_length : ∀ (is : List Nat) (objs os : List AO), is.length ≤ os.length → (putObjs objs is os).length = objs.length + (os.length - is.length)
  | [], objs, os, _ => by cases os <;> simp [putObjs]
  | i :: is, objs, [], h => by simp at h
  | i :: is, objs, o :: os, h => by
    simp only [putObjs, List.length_cons]
    rw [putObjs_length is _ os (by simpa using h)]
    simp

theorem putObjs_old : ∀ (is : List Nat) (objs os : List AO) (j : Nat), is.length ≤ os.length → j < objs.length → j ∉ is → (putObjs objs is os)[j]? = objs[j]?
  | [], objs, os, j, _, hj, _ => by cases os <;> simp [putObjs, List.getElem?_append_left hj]
  | i :: is, objs, [], j, h, _, _ => by simp at h
  | i :: is, objs, o :: os, j, h, hj, hn => by
    simp only [putObjs]
    rw [putObjs_old is _ os j (by simpa using h) (by simpa using hj) (fun hm => hn (by simp [hm]))]
    rw [List.getElem?_set_ne (fun e => hn (by simp [e]))]

theorem putObjs_lent : ∀ (is : List Nat) (objs os : List AO) (j i : Nat), is.length ≤ os.length → is.Nodup → (∀ i ∈ is, i < objs.length) → is[j]? = some i → (putObjs objs is os)[i]? = os[j]?
  | [], objs, os, j, i, _, _, _, hj => by simp at hj
  | i0 :: is, objs, [], j, i, h, _, _, _ => by simp at h
  | i0 :: is, objs, o :: os, 0, i, h, hnd, hlt, hj => by
    simp only [List.getElem?_cons_zero, Option.some.injEq] at hj
    subst hj
    simp only [putObjs]
    rw [putObjs_old is _ os i0 (by simpa using h) (by simpa using hlt i0 (by simp)) (List.nodup_cons.1 hnd).1]
    simp [hlt i0 (by simp)]
  | i0 :: is, objs, o :: os, j + 1, i, h, hnd, hlt, hj => by
    simp only [List.getElem?_cons_succ] at hj
    simp only [putObjs, List.getElem?_cons_succ]
    exact putObjs_lent is _ os j i (by simpa using h) (List.nodup_cons.1 hnd).2 (fun i hi => by simpa using hlt i (by simp [hi])) hj

theorem putObjs_new : ∀ (is : List Nat) (objs os : List AO) (j : Nat), is.length ≤ os.length → objs.length ≤ j → (putObjs objs is os)[j]? = os[is.length + (j - objs.length)]?
  | [], objs, os, j, _, hj => by cases os <;> simp [putObjs, List.getElem?_append_right hj, hj]
  | i :: is, objs, [], j, h, _ => by simp at h
  | i :: is, objs, o :: os, j, h, hj => by
    simp only [putObjs]
    rw [putObjs_new is _ os j (by simpa using h) (by simpa using hj)]
    simp only [List.length_set, List.length_cons]
    rw [show is.length + 1 + (j - objs.length) = is.length + (j - objs.length) + 1 from by omega, List.getElem?_cons_succ]

theorem callV_ac {P : Program} {E : Ent} {s : AS} {g : FuncId} {args args' : List AV} {K : AV → AS → Prop} {R : Nat → AV → List AO → List Nat → Nat → Prop} (is : List Nat) (lent : List AO)
    (hac : AC P g args' lent R) (hlent : lent.map some = is.map fun i => s.objs[i]?) (hnd : is.Nodup)
    (hargs : ∀ I τ ρ n vs, RepAs I τ ρ n args vs → RepAs I τ (fun i => ρ (is.getD i 0)) is.length args' vs)
    (hK : ∀ r os ts m, R s.nt r os ts m → K (r.rn is s.objs.length) { s with objs := putObjs s.objs is os, toks := ts ++ s.toks, nt := m }) : CallV P E s g args K := by
  refine ⟨hac.call, fun a w I τ ρ vs h h2 hvs => ?_⟩
  have hll : lent.length = is.length := by simpa using congrArg List.length hlent
  have hget : ∀ (j i : Nat), is[j]? = some i → lent[j]? = s.objs[i]? ∧ i < s.objs.length := by
    intro j i hj
    have e : (lent.map some)[j]? = (is.map fun i => s.objs[i]?)[j]? := by rw [hlent]
    simp only [List.getElem?_map, hj, Option.map_some] at e
    cases hl : lent[j]? with
    | none => simp [hl] at e
    | some o =>
      simp only [hl, Option.map_some, Option.some.injEq] at e
      exact ⟨e, (List.getElem?_eq_some_iff.1 e.symm).1⟩
  have hgetD : ∀ (j i : Nat), is[j]? = some i → is.getD j 0 = i := fun j i hj => by simp [List.getD, hj]
  have hidx : ∀ (j : Nat), j < is.length → ∃ i, is[j]? = some i := fun j hj => ⟨_, List.getElem?_eq_getElem hj⟩
  have hinj : ∀ (j j' i : Nat), is[j]? = some i → is[j']? = some i → j = j' := by
    intro j j' i h1 h2
    have l1 := (List.getElem?_eq_some_iff.1 h1).1
    exact (List.getElem?_inj l1 hnd).1 (h1.trans h2.symm)
  let E' : Ent := { w0 := w, I0 := I, ρ0 := fun i => ρ (is.getD i 0), τ0 := τ, k := lent.length, nt0 := s.nt, n := 0, lb := fun _ => False, gs := E.gs, lbk := fun _ _ h => h, gl := Glob.loc _ _ _ _ (fun b hb => h.blk b (E.gb b hb).1 (E.gb b hb).2) E.gl, gb := fun b hb => ⟨Nat.lt_of_lt_of_le (E.gb b hb).1 h.size, fun h => h, fun j hj => by
    obtain ⟨i, hi⟩ := hidx j (by rw [← hll]; exact hj)
    rw [hgetD j i hi]
    exact h.gsne hb (hget j i hi).2⟩ }
  have hSt : St E' lent [] E'.nt0 E'.I0 E'.τ0 E'.ρ0 E'.w0 := by
    refine ⟨h.iok, ?_, ?_, ?_, fun t ht => by simp at ht, fun t ht => by simp at ht, rfl, rfl, rfl, Nat.le_refl _, fun _ _ _ => rfl, fun _ _ _ => rfl, fun _ h => h.elim, fun _ _ => rfl, ?_, fun _ _ => rfl, Nat.le_refl _, Nat.le_refl _, fun b o v hv => h.lt_of_I hv, h.tn⟩
    · intro j o ho
      obtain ⟨i, hi⟩ := hidx j (by rw [← hll]; exact (List.getElem?_eq_some_iff.1 ho).1)
      have := (hget j i hi).1
      rw [ho] at this
      show RepO I τ o (w.heap[ρ (is.getD j 0)]?)
      rw [hgetD j i hi]
      exact h.obj i o this.symm
    · intro j hj
      obtain ⟨i, hi⟩ := hidx j (by rw [← hll]; exact hj)
      show ρ (is.getD j 0) < w.heap.size ∧ ∀ off, I (ρ (is.getD j 0)) off = none
      rw [hgetD j i hi]
      exact h.objI i (hget j i hi).2
    · intro j j' hj hj' e
      obtain ⟨i, hi⟩ := hidx j (by rw [← hll]; exact hj)
      obtain ⟨i', hi'⟩ := hidx j' (by rw [← hll]; exact hj')
      simp only [E', hgetD j i hi, hgetD j' i' hi'] at e
      have := h.inj i i' (hget j i hi).2 (hget j' i' hi').2 e
      subst this
      exact hinj j j' i hi hi'
    · intro i hk hi
      exact absurd hi (by simp only [E'] at hk; omega)
  have hargs' := hargs I τ ρ s.objs.length vs hvs
  rw [← hll] at hargs'
  refine (hac.run E' vs rfl hSt hargs').mono fun e w' ⟨x, he, r, os, ts, m, I', τ', ρ', hR, hS, hA⟩ => ?_
  have hlen : is.length ≤ os.length := by rw [← hll]; exact hS.len
  let ρ'' : Nat → Nat := fun o => if o < s.objs.length then ρ o else ρ' (is.length + (o - s.objs.length))
  have hpl := putObjs_length is s.objs os hlen
  have hII : ∀ b, b < w.heap.size → ∀ o, I' b o = I b o := fun b hb => hS.ifr b ⟨hb, fun h => h⟩
  have hext : Ext I τ I' τ' := ⟨fun b o v hv => by rw [hII b (h.lt_of_I hv)]; exact hv, fun t v hv => by
    have : t < s.nt := by
      rcases Nat.lt_or_ge t s.nt with hlt | hge
      · exact hlt
      · rw [h.tn t hge] at hv; cases hv
    rw [hS.tau t this]; exact hv⟩
  have hρold : ∀ o, o < s.objs.length → ρ'' o = ρ o := fun o ho => by simp [ρ'', ho]
  have hρnew : ∀ o, s.objs.length ≤ o → ρ'' o = ρ' (is.length + (o - s.objs.length)) := fun o ho => by simp [ρ'', Nat.not_lt.2 ho]
  have hfreshN : ∀ o, s.objs.length ≤ o → o < (putObjs s.objs is os).length → w.heap.size ≤ ρ'' o := by
    intro o ho hlt
    rw [hρnew o ho]
    exact hS.fresh _ (by show lent.length ≤ _; omega) (by rw [hpl] at hlt; omega)
  have hblkN : ∀ b, b < w.heap.size → (∀ (j i : Nat), is[j]? = some i → ρ i ≠ b) → w'.heap[b]? = w.heap[b]? := by
    intro b hb hne
    refine hS.blk b hb ⟨fun h => h, fun j hj => ?_⟩
    obtain ⟨i, hi⟩ := hidx j (by rw [← hll]; exact hj)
    show ρ (is.getD j 0) ≠ b
    rw [hgetD j i hi]
    exact hne j i hi
  have hSt' : St E (putObjs s.objs is os) (ts ++ s.toks) m I' τ' ρ'' w' := by
    refine ⟨hS.iok, ?_, ?_, ?_, ?_, ?_, hS.os.trans h.os, hS.tape.trans h.tape, hS.output.trans h.output, Nat.le_trans h.size hS.size, ?_, ?_, fun b hb o v hv => hext.i _ _ _ (h.ifl b hb o v hv), ?_, ?_, ?_, ?_, ?_, h.i0, hS.tn⟩
    · intro i o ho
      by_cases hi : i < s.objs.length
      · rw [hρold i hi]
        by_cases him : i ∈ is
        · obtain ⟨j, hj⟩ := List.getElem?_of_mem him
          rw [putObjs_lent is s.objs os j i hlen hnd (fun i hi => by obtain ⟨j, hj⟩ := List.getElem?_of_mem hi; exact (hget j i hj).2) hj] at ho
          have hk : j < E'.k := by show j < lent.length; rw [hll]; exact (List.getElem?_eq_some_iff.1 hj).1
          have := hS.obj j o ho
          rw [hS.rho j hk] at this
          show RepO I' τ' o (w'.heap[ρ i]?)
          have e2 : E'.ρ0 j = ρ i := by show ρ (is.getD j 0) = ρ i; rw [hgetD j i hj]
          rwa [e2] at this
        · rw [putObjs_old is s.objs os i hlen hi him] at ho
          have hb := (h.objI i hi).1
          rw [hblkN (ρ i) hb (fun j i' hj e => him (by
            have := h.inj i' i (hget j i' hj).2 hi e
            subst this
            exact List.mem_of_getElem? hj))]
          exact (h.obj i o ho).mono hext
      · rw [putObjs_new is s.objs os i hlen (by omega)] at ho
        rw [hρnew i (by omega)]
        exact hS.obj _ o ho
    · intro i hi
      by_cases hlt : i < s.objs.length
      · rw [hρold i hlt]
        have hb := (h.objI i hlt).1
        exact ⟨Nat.lt_of_lt_of_le hb hS.size, fun off => by rw [hII _ hb]; exact (h.objI i hlt).2 off⟩
      · rw [hρnew i (by omega)]
        exact hS.objI _ (by rw [hpl] at hi; omega)
    · intro i j hi hj e
      by_cases hi' : i < s.objs.length <;> by_cases hj' : j < s.objs.length
      · rw [hρold i hi', hρold j hj'] at e
        exact h.inj i j hi' hj' e
      · have h1 := hfreshN j (by omega) hj
        rw [← e, hρold i hi'] at h1
        have := (h.objI i hi').1
        omega
      · have h1 := hfreshN i (by omega) hi
        rw [e, hρold j hj'] at h1
        have := (h.objI j hj').1
        omega
      · rw [hρnew i (by omega), hρnew j (by omega)] at e
        have := hS.inj _ _ (by rw [hpl] at hi; omega) (by rw [hpl] at hj; omega) e
        omega
    · intro t ht
      rcases List.mem_append.1 ht with ht | ht
      · obtain ⟨k1, k2⟩ := hS.tok t ht
        refine ⟨k1, fun b e r hb => ?_⟩
        obtain ⟨k3, k4, k5, k6⟩ := k2 b e r hb
        have k3' : w.heap.size ≤ b := k3.elim (fun h => h) fun h => h.elim
        refine ⟨.inl (Nat.le_trans h.size k3'), k4, k5, fun i hi => ?_⟩
        by_cases hlt : i < s.objs.length
        · rw [hρold i hlt]
          have := (h.objI i hlt).1
          omega
        · rw [hρnew i (by omega)]
          exact k6 _ (by rw [hpl] at hi; omega)
      · obtain ⟨k1, k2⟩ := h.tok t ht
        have hm : s.nt ≤ m := hS.ntle
        refine ⟨by omega, fun b e r hb => ?_⟩
        rw [hS.tau t k1] at hb
        obtain ⟨k3, ⟨cur, T, k4, k5⟩, k6, k7⟩ := k2 b e r hb
        have hlt := (Array.getElem?_eq_some_iff.1 k4).1
        refine ⟨k3, ⟨cur, T, by rw [hblkN b hlt (fun j i hj => k7 i (hget j i hj).2)]; exact k4, k5⟩, fun o ho => by rw [hII b hlt]; exact k6 o ho, fun i hi => ?_⟩
        by_cases hlt' : i < s.objs.length
        · rw [hρold i hlt']; exact k7 i hlt'
        · have := hfreshN i (by omega) hi
          omega
    · have cross : ∀ t ∈ ts, ∀ u ∈ s.toks, ∀ b e r b' e' r', τ' t = some (b, e, r) → τ' u = some (b', e', r') → b = b' → False := by
        intro t ht u hu b e r b' e' r' hb hb' heq
        have k3 : w.heap.size ≤ b := ((hS.tok t ht).2 b e r hb).1.elim (fun h => h) fun h => h.elim
        obtain ⟨k1, k2⟩ := h.tok u hu
        rw [hS.tau u k1] at hb'
        obtain ⟨_, ⟨cur, T, k4, _⟩, _⟩ := k2 b' e' r' hb'
        have := (Array.getElem?_eq_some_iff.1 k4).1
        omega
      intro t ht u hu b e r b' e' r' hb hb' heq
      rcases List.mem_append.1 ht with ht | ht <;> rcases List.mem_append.1 hu with hu | hu
      · exact hS.tokd t ht u hu b e r b' e' r' hb hb' heq
      · exact (cross t ht u hu b e r b' e' r' hb hb' heq).elim
      · exact (cross u hu t ht b' e' r' b e r hb' hb heq.symm).elim
      · rw [hS.tau t (h.tok t ht).1] at hb
        rw [hS.tau u (h.tok u hu).1] at hb'
        exact h.tokd t ht u hu b e r b' e' r' hb hb' heq
    · intro b hb hk
      rw [hblkN b (by have := h.size; omega) (fun j i hj e => ?_)]
      · exact h.blk b hb hk
      · have hilt := (hget j i hj).2
        by_cases hik : i < E.k
        · exact hk.2 i hik (by rw [← h.rho i hik]; exact e)
        · have := h.fresh i (by omega) hilt
          omega
    · intro b hb o
      rw [hII b (by have := h.size; have := hb.1; omega)]
      exact h.ifr b hb o
    · intro i hi
      have := h.len
      rw [hρold i (by omega)]
      exact h.rho i hi
    · intro i hk hi
      by_cases hlt : i < s.objs.length
      · rw [hρold i hlt]; exact h.fresh i hk hlt
      · exact Nat.le_trans h.size (hfreshN i (by omega) hi)
    · intro t ht
      have h1 := h.ntle
      rw [hS.tau t (by show t < s.nt; omega)]
      exact h.tau t ht
    · have := h.len; rw [hpl]; omega
    · have h1 := h.ntle; have h2 : s.nt ≤ m := hS.ntle; omega
  subst he
  refine ⟨x, rfl, _, _, hK r os ts m hR, rfl, I', τ', ρ'', hSt', fun t => ?_, ?_⟩
  · exact (h2 t).mono ⟨hext, by rw [hpl]; omega, fun o ho => hρold o ho⟩
  · refine hA.rn (fun o ho => ?_) (fun o ho => ?_)
    · unfold rnO
      split
      · rename_i hlt
        obtain ⟨i, hi⟩ := hidx o hlt
        rw [hgetD o i hi, hpl]
        have := (hget o i hi).2
        omega
      · rw [hpl]; omega
    · unfold rnO
      split
      · rename_i hlt
        obtain ⟨i, hi⟩ := hidx o hlt
        rw [hgetD o i hi, hρold i (hget o i hi).2]
        rw [hS.rho o (by show o < lent.length; omega)]
        show ρ i = ρ (is.getD o 0)
        rw [hgetD o i hi]
      · rw [hρnew _ (by omega)]
        congr 1
        omega

/-! ### Who may append is forgotten at a call -/

mutual
def DV.er : DV → DV
  | .sl sz xs _ => .sl sz (erLL xs) .no
  | .int k n => .int k n
  | .bool b => .bool b
  | .str s => .str s
  | .pin c _ => c.er
def erLL : List (List DV) → List (List DV)
  | [] => []
  | x :: xs => erL x :: erLL xs
def erL : List DV → List DV
  | [] => []
  | c :: cs => c.er :: erL cs
end

theorem erL_eq (l : List DV) : erL l = l.map DV.er := by induction l <;> simp_all [erL]
theorem erLL_eq (l : List (List DV)) : erLL l = l.map erL := by induction l <;> simp_all [erLL]

theorem RepD.er {I : IH} {τ : TH} {c : DV} {v : Value} (h : RepD I τ c v) : RepD I τ c.er v := by
  induction h with
  | int k n => exact .int k n
  | bool b => exact .bool b
  | str s hs => exact .str s hs
  | sl sz xs own a cap vals hsz hcap hmax hnil hadr hI _ hown ih =>
    have hl : (erLL xs).length = xs.length := by rw [erLL_eq]; simp
    have hget : ∀ (i : Nat) x (j : Nat) c, (erLL xs)[i]? = some x → x[j]? = some c → ∃ x' c', xs[i]? = some x' ∧ x'[j]? = some c' ∧ c = c'.er := by
      intro i x j c hx hc
      rw [erLL_eq, List.getElem?_map, Option.map_eq_some_iff] at hx
      obtain ⟨x', hx', rfl⟩ := hx
      rw [erL_eq, List.getElem?_map, Option.map_eq_some_iff] at hc
      obtain ⟨c', hc', rfl⟩ := hc
      exact ⟨x', c', hx', hc', rfl⟩
    have := RepD.sl (I := I) (τ := τ) sz (erLL xs) .no a cap vals ?_ (by rw [hl]; exact hcap) hmax hnil hadr ?_ ?_ trivial
    · rw [hl] at this
      exact this
    · intro x hx
      rw [erLL_eq] at hx
      obtain ⟨x', hx', rfl⟩ := List.mem_map.1 hx
      rw [erL_eq, List.length_map]
      exact hsz x' hx'
    · intro adr ha i x j c hx hc
      obtain ⟨x', c', h1, h2, _⟩ := hget i x j c hx hc
      exact hI adr ha i x' j c' h1 h2
    · intro i x j c hx hc
      obtain ⟨x', c', h1, h2, rfl⟩ := hget i x j c hx hc
      exact ih i x' j c' h1 h2
  | pin c v _ ih => exact ih

/-- The elements that are appended may forget who may append to them. -/
theorem RepD.erApp {I : IH} {τ : TH} {sz : Nat} {xs ys : List (List DV)} {own : Own} {v : Value} (h : RepD I τ (.sl sz (xs ++ ys) own) v) : RepD I τ (.sl sz (xs ++ erLL ys) own) v := by
  generalize hz : xs ++ ys = zs at h
  cases h with
  | sl _ _ _ a cap vals hsz hcap hmax hnil hadr hI hrep hown =>
    subst hz
    have hl : (xs ++ erLL ys).length = (xs ++ ys).length := by rw [erLL_eq]; simp
    have hget : ∀ (i : Nat) x (j : Nat) c, (xs ++ erLL ys)[i]? = some x → x[j]? = some c → ∃ x' c', (xs ++ ys)[i]? = some x' ∧ x'[j]? = some c' ∧ (c = c' ∨ c = c'.er) := by
      intro i x j c hx hc
      by_cases hi : i < xs.length
      · rw [List.getElem?_append_left hi] at hx
        exact ⟨x, c, by rw [List.getElem?_append_left hi]; exact hx, hc, .inl rfl⟩
      · rw [List.getElem?_append_right (by omega), erLL_eq, List.getElem?_map, Option.map_eq_some_iff] at hx
        obtain ⟨x', hx', rfl⟩ := hx
        rw [erL_eq, List.getElem?_map, Option.map_eq_some_iff] at hc
        obtain ⟨c', hc', rfl⟩ := hc
        exact ⟨x', c', by rw [List.getElem?_append_right (by omega)]; exact hx', hc', .inr rfl⟩
    have := RepD.sl (I := I) (τ := τ) sz (xs ++ erLL ys) own a cap vals ?_ (by rw [hl]; exact hcap) hmax hnil hadr ?_ ?_ (by rw [hl]; exact hown)
    · rw [hl] at this
      exact this
    · intro x hx
      rcases List.mem_append.1 hx with hx | hx
      · exact hsz x (List.mem_append_left _ hx)
      · rw [erLL_eq] at hx
        obtain ⟨x', hx', rfl⟩ := List.mem_map.1 hx
        rw [erL_eq, List.length_map]
        exact hsz x' (List.mem_append_right _ hx')
    · intro adr ha i x j c hx hc
      obtain ⟨x', c', h1, h2, _⟩ := hget i x j c hx hc
      exact hI adr ha i x' j c' h1 h2
    · intro i x j c hx hc
      obtain ⟨x', c', h1, h2, h3⟩ := hget i x j c hx hc
      rcases h3 with rfl | rfl
      · exact hrep i x' j _ h1 h2
      · exact (hrep i x' j _ h1 h2).er

theorem RepL.er {I : IH} {τ : TH} {cs : List DV} {vs : List Value} (h : RepL I τ cs vs) : RepL I τ (erL cs) vs :=
  ⟨by rw [erL_eq]; simpa using h.1, fun i c v hc hv => by
    rw [erL_eq, List.getElem?_map, Option.map_eq_some_iff] at hc
    obtain ⟨c', hc', rfl⟩ := hc
    exact (h.2 i c' v hc' hv).er⟩

def AV.er : AV → AV
  | .d c => .d c.er
  | .agg cs => .agg (erL cs)
  | v => v

theorem RepA.er {I : IH} {τ : TH} {ρ : Nat → Nat} {n : Nat} {v : AV} {x : Value} (h : RepA I τ ρ n v x) : RepA I τ ρ n v.er x := by
  cases h with
  | d c v h => exact .d _ _ h.er
  | agg cs vs h => exact .agg _ _ h.er
  | ptr o off h => exact .ptr o off h
  | elem cs vs adr hs h hI => exact .elem cs vs adr hs h hI
  | arr o m sz h hn => exact .arr o m sz h hn
  | map o h => exact .map o h
  | fn f caps h => exact .fn f caps h
  | tup vs ws hl h => exact .tup vs ws hl h
  | nilI => exact .nilI
  | errI t v => exact .errI t v
  | nofn => exact .nofn
  | unk v => exact .unk _

theorem RepAs.er {I : IH} {τ : TH} {ρ : Nat → Nat} {n : Nat} {args rest : List AV} {xs : List Value} (h : RepAs I τ ρ n (args ++ rest) xs) : RepAs I τ ρ n (args.map AV.er ++ rest) xs := by
  refine ⟨by have := h.1; simpa using this, fun i v x hv hx => ?_⟩
  by_cases hi : i < args.length
  · rw [List.getElem?_append_left (by simpa using hi), List.getElem?_map, Option.map_eq_some_iff] at hv
    obtain ⟨u, hu, rfl⟩ := hv
    exact (h.2 i u x (by rw [List.getElem?_append_left hi]; exact hu) hx).er
  · rw [List.getElem?_append_right (by simpa using hi)] at hv
    refine h.2 i v x ?_ hx
    rw [List.getElem?_append_right (by omega)]
    simpa using hv

theorem CallV.er {P : Program} {E : Ent} {s : AS} {g : FuncId} {args rest : List AV} {K : AV → AS → Prop} (h : CallV P E s g (args.map AV.er ++ rest) K) : CallV P E s g (args ++ rest) K :=
  ⟨h.1, fun a w I τ ρ vs h1 h2 h3 => h.2 a w I τ ρ vs h1 h2 h3.er⟩

/-- The arguments as the callee names them. -/
theorem RepA.unrn {I : IH} {τ : TH} {ρ : Nat → Nat} {n len : Nat} {is : List Nat} {v : AV} {x : Value} (hs : v.scopedT is.length = true) (h : RepA I τ ρ n (v.rn is len) x) : RepA I τ (fun i => ρ (is.getD i 0)) is.length v x := by
  cases v with
  | d c => simp only [AV.rn] at h; cases h with | d _ _ h => exact .d _ _ h
  | agg cs => simp only [AV.rn] at h; cases h with | agg _ _ h => exact .agg _ _ h
  | ptr o off =>
    have ho : o < is.length := by simpa [AV.scopedT] using hs
    simp only [AV.rn, rnO, ho, if_true] at h
    cases h with
    | ptr _ _ h => exact RepA.ptr (ρ := fun i => ρ (is.getD i 0)) o off ho
  | elem cs => simp only [AV.rn] at h; cases h with | elem _ vs adr hs h hI => exact .elem _ vs adr hs h hI
  | arr o m sz =>
    have ho : o < is.length := by simpa [AV.scopedT] using hs
    simp only [AV.rn, rnO, ho, if_true] at h
    cases h with
    | arr _ _ _ h hn => exact RepA.arr (ρ := fun i => ρ (is.getD i 0)) o m sz ho hn
  | map o =>
    have ho : o < is.length := by simpa [AV.scopedT] using hs
    simp only [AV.rn, rnO, ho, if_true] at h
    cases h with
    | map _ h => exact RepA.map (ρ := fun i => ρ (is.getD i 0)) o ho
  | fn f caps =>
    have hc : ∀ o ∈ caps, o < is.length := by simpa [AV.scopedT] using hs
    simp only [AV.rn] at h
    cases h with
    | fn _ _ h =>
      have e : ((caps.map (rnO is len)).map fun o => Value.pointer (some ⟨ρ o, 0, none⟩)) = caps.map fun o => Value.pointer (some ⟨(fun i => ρ (is.getD i 0)) o, 0, none⟩) := by
        rw [List.map_map]
        exact List.map_congr_left fun o ho => by simp only [Function.comp_apply, rnO, hc o ho, if_true]
      rw [e]
      exact RepA.fn (ρ := fun i => ρ (is.getD i 0)) f caps hc
  | tup vs => simp [AV.scopedT] at hs
  | nilI => simp only [AV.rn] at h; cases h; exact .nilI
  | errI => simp only [AV.rn] at h; cases h; exact .errI _ _
  | nofn => simp only [AV.rn] at h; cases h; exact .nofn
  | unk => exact .unk _

theorem RepAs.unrn {I : IH} {τ : TH} {ρ : Nat → Nat} {n len : Nat} {is : List Nat} {args args' : List AV} {xs : List Value} (hs : (args'.all fun v => v.scopedT is.length) = true) (ha : args'.map (AV.rn is len) = args)
    (h : RepAs I τ ρ n args xs) : RepAs I τ (fun i => ρ (is.getD i 0)) is.length args' xs := by
  subst ha
  refine ⟨by have := h.1; simpa using this, fun i v x hv hx => RepA.unrn (n := n) (len := len) ?_ (h.2 i (v.rn is len) x (by simp [hv]) hx)⟩
  rw [List.all_eq_true] at hs
  exact hs v (List.mem_of_getElem? hv)

end Go.AL

namespace Go.AL
open Go
set_option linter.unusedSectionVars false
variable [Inhabited Glob]
set_option linter.unusedSimpArgs false

section
variable {P : Program} {E : Ent} {s : AS} {ty : TypeId} {K : AV → AS → Prop}

/-! ### A row of variables made at once -/

theorem op_makeSlice (TT : Tab P) {T e : Nat} {x y : Operand} {z : List DV} {n : Int} (hx : ev s x = .d (.int .i64 n)) (hy : ev s y = .d (.int .i64 n)) (ht : (TT.T T).t = .slice e) (hke : (TT.T e).t.known = true)
    (hz : (TT.T e).zero = some z) (hpos : 0 < (TT.T e).size) (hbpos : 0 < (TT.T e).bytes) (h0 : 0 ≤ n) (hlim : n.toNat * (TT.T e).bytes ≤ 281474976710656)
    (hK : K (.arr s.objs.length n.toNat (TT.T e).size) { s with objs := s.objs ++ [.cells (zeros z n.toNat)] }) : OpOK P E s (.makeSlice T x y) ty K := by
  intro a w hsim
  obtain ⟨I, τ, ρ, h, h2⟩ := hsim.ex
  have hv := rep_int (hx ▸ ev_rep h2 x)
  have hv' := rep_int (hy ▸ ev_rep h2 y)
  have hd := (TT.ok T).desc
  simp only [ht] at hd
  obtain ⟨inf, hi1, hi2, hi3⟩ := info_of (TT.ok e) hke
  have hne : (TT.T e).t ≠ .other := by intro he; rw [he] at hke; cases hke
  obtain ⟨g1, g2, g3, g4⟩ := zeroValue_run (TT.ok e) hne hz w
  have hzc := zeroCells_eq g3 g4 g2
  generalize (if (TT.T e).t.agg then Value.agg (z.map DV.zv).toArray else (z.map DV.zv).headD undef) = zz at *
  obtain ⟨m, rfl⟩ := Int.eq_ofNat_of_zero_le h0
  simp only [Int.toNat_natCast] at *
  have hm : m ≤ 281474976710656 := by
    have := Nat.mul_le_mul_left m hbpos
    omega
  have hwrap : IntKind.i64.wrap (m : Int) = m := IntWalk.i64_in _ (by omega)
  have hb : ¬ ((2 : Int) ^ 48 < (inf.bytes : Int) * (m : Int)) := by
    rw [hi3]
    have : ((TT.T e).bytes : Int) * (m : Int) = ((m * (TT.T e).bytes : Nat) : Int) := by rw [Nat.mul_comm]; exact (Int.natCast_mul _ _).symm
    rw [this]
    omega
  obtain ⟨q1, q2⟩ := h.allocObj (.cells ((zeros z m).map DV.zv).toArray e) (.cells (zeros z m)) ⟨_, e, rfl, RepL.zeros (zeros_all g2 m)⟩
  refine .inl ⟨.slice (some ⟨w.heap.size, 0, none⟩) m m, w.alloc (.cells ((zeros z m).map DV.zv).toArray e), fun _ _ _ _ => ?_, _, _, hK, rfl, I, τ, _, q1, fun t => (h2 t).mono q2, ?_⟩
  · rcases Nat.eq_zero_or_pos m with rfl | hmpos
    · simp [execOp, Instr.makeSlice, hv, hv', asInt, asIntOf, run_underlying hd, typeInfo, hi1, run_sizeOf_of w (TT.ok e) hke, Array.range_zero', newRow, zeros, hwrap]
      simp [IntKind.wrap, IntKind.bits]
      have e0 : Array.map (fun _ => (default : Value)) (Array.range 0) = #[] := by simp
      rw [e0]
    · have hne0 : ¬ (m = 0 ∨ (TT.T e).size = 0) := by omega
      have hr := range_zeros z (by omega) m
      rw [g3] at hr
      have hr' : (Array.range (m * (TT.T e).size)).map (fun i => (z.map DV.zv).toArray[i % (z.map DV.zv).toArray.size]!) = ((zeros z m).map DV.zv).toArray := by
        apply Array.ext'
        simpa using hr
      have hb' : ¬ ((281474976710656 : Int) < (inf.bytes : Int) * (m : Int)) := by simpa using hb
      have hmi : ¬ ((m : Int) < 0) := by omega
      simp only [execOp, Instr.makeSlice, hv, hv', asInt, asIntOf, Sem.run_bind, Sem.run_pure, run_underlying hd, Result.andThen_ok, typeInfo, run_program, hi1, hwrap]
      simp [hb', hmi, run_sizeOf_of w (TT.ok e) hke, hne0, g1, hzc, newRow, hwrap]
      have hms : ¬ m * (TT.T e).size = 0 := by have := Nat.mul_pos hmpos hpos; omega
      simp only [List.size_toArray, List.length_map, List.getElem!_toArray, List.getElem!_eq_getElem?_getD, List.getElem?_map] at hr'
      rw [if_neg hms, hr']
  · have := RepA.arr (I := I) (τ := τ) (ρ := upd ρ s.objs.length w.heap.size) (n := (s.objs ++ [AO.cells (zeros z m)]).length) s.objs.length m (TT.T e).size (by simp) (by omega)
    simpa [upd] using this

/-! ### Equality of structs -/

def cmpD : DV → DV → Option Bool
  | .int _ a, .int _ b => some (a == b)
  | .bool a, .bool b => some (a == b)
  | .str a, .str b => some (a == b)
  | _, _ => none

def cmpL : List DV → List DV → Option Bool
  | [], [] => some true
  | a :: as, b :: bs => match cmpD a b, cmpL as bs with
    | some x, some y => some (x && y)
    | _, _ => none
  | _, _ => none

/-- Two values of a struct type are equal just where their cells are. -/
def EqOK (P : Program) (T : TypeId) (cs ds : List DV) : Prop :=
  ∀ (I : IH) (τ : TH) (vs us : List Value) (b : Bool) (w : World) (x y : Operand), RepL I τ cs vs → RepL I τ ds us → cmpL cs ds = some b →
    (eqGuard .eql T x y (.agg vs.toArray) (.agg us.toArray)).run P w = .ok () w ∧ (eqGuard .neq T x y (.agg vs.toArray) (.agg us.toArray)).run P w = .ok () w ∧
    (Op.equal T (.agg vs.toArray) (.agg us.toArray)).run P w = .ok b w

theorem op_bin_agg {op : BinOp} {T U : TypeId} {x y : Operand} {cs ds : List DV} {b : Bool} (hx : ev s x = .agg cs) (hy : ev s y = .agg ds) (he : EqOK P T cs ds) (hop : op = .eql ∨ op = .neq)
    (hc : cmpL cs ds = some b) (hK : K (.d (.bool (if op = .eql then b else !b))) s) : OpOK P E s (.binOp op T x y U) ty K :=
  op_pure _ _ hK fun a w I τ ρ h h2 => by
    have hv := ev_rep h2 x
    rw [hx] at hv
    have hw := ev_rep h2 y
    rw [hy] at hw
    generalize hax : a.eval x = vx at *
    generalize hay : a.eval y = vy at *
    cases hv with
    | agg _ vs hl =>
      cases hw with
      | agg _ us hl' =>
        obtain ⟨e1, e2, e3⟩ := he I τ vs us b w x y hl hl' hc
        refine ⟨_, fun _ _ _ _ => ?_, .d _ _ (.bool _)⟩
        rcases hop with rfl | rfl
        · simp [execOp, hax, hay, e1, binOp, e3]
        · simp [execOp, hax, hay, e2, binOp, e3]

/-! ### An error that is nil, or not -/

theorem op_bin_err (TT : Tab P) {op : BinOp} {T U : TypeId} {x : Operand} {c : Value} {nil : Bool} (hx : ev s x = if nil then .nilI else .errI) (hc : c = .nilIface) (ht : (TT.T T).t = .iface) (hop : op = .eql ∨ op = .neq)
    (hK : K (.d (.bool (if op = .eql then nil else !nil))) s) : OpOK P E s (.binOp op T x (.const c) U) ty K :=
  op_pure _ _ hK fun a w I τ ρ h h2 => by
    subst hc
    have hv := ev_rep h2 x
    rw [hx] at hv
    have hd := (TT.ok T).desc
    simp only [ht] at hd
    obtain ⟨ms, hd⟩ := hd
    have hc : a.eval (.const .nilIface) = .nilIface := rfl
    have eqN : ∀ (n : Nat), (Op.equalIn (n + 1) T .nilIface .nilIface).run P w = .ok true w := fun n => by simp [Op.equalIn, run_underlying hd]
    have eqE : ∀ (n : Nat) t v, (Op.equalIn (n + 1) T (.iface t v) .nilIface).run P w = .ok false w := fun n t v => by simp [Op.equalIn, run_underlying hd]
    refine ⟨_, fun _ _ _ _ => ?_, .d _ _ (.bool _)⟩
    generalize hax : a.eval x = vx at *
    cases nil with
    | true =>
      simp only [if_true] at hv
      cases hv
      rcases hop with rfl | rfl <;> simp [execOp, hax, hc, eqGuard_nil_constR, binOp, Op.equal, Op.maxDepth, eqN 9999]
    | false =>
      simp only [Bool.false_eq_true, if_false] at hv
      cases hv
      rcases hop with rfl | rfl <;> simp [execOp, hax, hc, eqGuard_at_iface, binOp, Op.equal, Op.maxDepth, eqE 9999]

/-! ### min and max -/

def foldI (f : Int → Int → Int) : Int → List AV → Option Int
  | m, [] => some m
  | m, .d (.int _ n) :: l => foldI f (f m n) l
  | _, _ => none

theorem op_minmax {args : Array Operand} {tys : Array TypeId} {isMax : Bool} {x : Operand} {rest : List Operand} {k : IntKind} {m r : Int} (ha : args.toList = x :: rest) (hx : ev s x = .d (.int k m))
    (hf : foldI (if isMax then fun a b => if b > a then b else a else fun a b => if b < a then b else a) m (rest.map (ev s)) = some r)
    (hK : K (.d (.int k r)) s) : OpOK P E s (.call ⟨.builtin (if isMax then .max else .min), args, tys⟩) ty K :=
  op_pure _ _ hK fun a w I τ ρ h h2 => by
    have hv := rep_int (hx ▸ ev_rep h2 x)
    refine ⟨.int k r, fun _ _ _ _ => ?_, .d _ _ (.int _ _)⟩
    have hargs : (args.map a.eval).toList = a.eval x :: rest.map a.eval := by simp [ha]
    have key : ∀ (l : List Operand) (m r : Int), foldI (if isMax then fun a b => if b > a then b else a else fun a b => if b < a then b else a) m (l.map (ev s)) = some r →
        (List.foldlM (m := Sem) (if isMax then Builtin.max2 else Builtin.min2) (.int k m) (l.map a.eval)).run P w = .ok (.int k r) w := by
      intro l
      induction l with
      | nil => intro m r hr; simp only [List.map_nil, foldI, Option.some.injEq] at hr; subst hr; simp
      | cons y l ih =>
        intro m r hr
        have hyr := ev_rep h2 y
        simp only [List.map_cons] at hr
        cases hy : ev s y with
        | d c =>
          cases c with
          | int k' n =>
            rw [hy] at hyr hr
            have hyv := rep_int hyr
            simp only [foldI] at hr
            have := ih _ r hr
            simp only [List.map_cons, List.foldlM_cons, hyv]
            cases isMax <;> simp [Builtin.max2, Builtin.min2] at this ⊢ <;> exact this
          | _ => rw [hy] at hr; simp [foldI] at hr
        | _ => rw [hy] at hr; simp [foldI] at hr
    have hk := key rest m r hf
    cases isMax
    · simp only [Bool.false_eq_true, if_false] at hk ⊢
      simp only [execOp, resolve, pure_bind, invoke, builtin, Builtin.min_, hargs, hv, Sem.run_bind, hk, Result.andThen_ok, Sem.run_pure]
    · simp only [if_true] at hk ⊢
      simp only [execOp, resolve, pure_bind, invoke, builtin, Builtin.max_, hargs, hv, Sem.run_bind, hk, Result.andThen_ok, Sem.run_pure]

end
end Go.AL

namespace Go.AL
open Go
set_option linter.unusedSectionVars false
variable [Inhabited Glob]
set_option linter.unusedSimpArgs false

inductive SR where
  | ok (pre fact : Prop) (v : AV) (s : AS)
  | call (g : FuncId) (args : List AV)
  | stop

def pickR (c a b : AV) (s : AS) : SR :=
  match c with
  | .d (.bool t) => .ok True True (if t then a else b) s
  | _ => .stop

def allocR (ti : TyI) (s : AS) : SR :=
  match ti.zero with
  | some z => .ok (ti.t.known = true) True (.ptr s.objs.length 0) { s with objs := s.objs ++ [.cells z] }
  | none => .stop

def boxR (v : AV) (s : AS) : SR :=
  match v.cells with
  | some cs => .ok True True (.ptr s.objs.length 0) { s with objs := s.objs ++ [.cells cs] }
  | none => .stop

section
variable {P : Program} (TT : Tab P)

def buildR (ti : TyI) (parts : List (Nat × Option (List DV))) (s : AS) : SR :=
  match ti.t, ti.zero with
  | .strct fs, some z => match fillL (placeS TT fs) z parts with
    | some out => .ok (fs.all (fun p => (TT.T p.2).t.known) = true) True (.agg out) s
    | none => .stop
  | _, _ => .stop

def bsliceR (ti : TyI) (n : Nat) (parts : List (Nat × Option (List DV))) (s : AS) : SR :=
  match ti.t with
  | .slice e => match (TT.T e).zero with
    | some z => match fillL (placeE (TT.T e).size) (zeros z n) parts with
      | some out => .ok ((TT.T e).t.known = true ∧ 0 < (TT.T e).size ∧ n * (TT.T e).size ≤ 16777216) True (.d (.sl (TT.T e).size (chunk (TT.T e).size n out) .full)) s
      | none => .stop
    | none => .stop
  | _ => .stop

def loadR (ti : TyI) (a : AV) (s : AS) : SR :=
  match a with
  | .ptr o off => match s.objs[o]? with
    | some (.cells cs) => .ok (ti.t.known = true ∧ off + ti.size ≤ cs.length ∧ (ti.t.agg = false → ti.size = 1)) True (mkV ti ((cs.drop off).take ti.size)) s
    | _ => .stop
  | .elem cs => .ok (ti.t.known = true ∧ ti.size ≤ cs.length ∧ (ti.t.agg = false → ti.size = 1)) True (mkV ti (cs.take ti.size)) s
  | _ => .stop

def storeR (ti : TyI) (a v : AV) (s : AS) : SR :=
  match a, v.cells with
  | .ptr o off, some ys => match s.objs[o]? with
    | some (.cells cs) => .ok (ti.t.known = true ∧ ys.length = ti.size ∧ off + ys.length ≤ cs.length) True .unk { s with objs := s.objs.set o (.cells (layL cs off ys)) }
    | _ => .stop
  | _, _ => .stop

def nilR (v : AV) (s : AS) : SR :=
  match v with
  | .ptr o off => .ok True True (.ptr o off) s
  | .elem cs => .ok True True (.elem cs) s
  | _ => .stop

def binR (op : BinOp) (ti : TyI) (T : TypeId) (a b : AV) (s : AS) : SR :=
  match a, b with
  | .d (.int k m), .d (.int k' n) =>
    match op with
    | .shl | .shr => match binSh op k m n with
      | some r => .ok True True (.d r) s
      | none => .stop
    | _ => match binI op k m n with
      | some r => .ok (k = k') True (.d r) s
      | none => .stop
  | .d (.str m), .d (.str n) => match op with
    | .add => .ok (m.length + n.length ≤ 9223372036854775807) True (.d (.str (m ++ n))) s
    | _ => match binS op m n with
      | some r => .ok True True (.d r) s
      | none => .stop
  | .d (.bool m), .d (.bool n) => match op with
    | .eql => .ok (ti.t = .bool) True (.d (.bool (m == n))) s
    | .neq => .ok (ti.t = .bool) True (.d (.bool (m != n))) s
    | _ => .stop
  | .agg cs, .agg ds => match op, cmpL cs ds with
    | .eql, some b => .ok (EqOK P T cs ds) True (.d (.bool b)) s
    | .neq, some b => .ok (EqOK P T cs ds) True (.d (.bool (!b))) s
    | _, _ => .stop
  | _, _ => .stop

def errR (op : BinOp) (ti : TyI) (a : AV) (s : AS) : SR :=
  match a, op with
  | .nilI, .eql => .ok (ti.t = .iface) True (.d (.bool true)) s
  | .nilI, .neq => .ok (ti.t = .iface) True (.d (.bool false)) s
  | .errI, .eql => .ok (ti.t = .iface) True (.d (.bool false)) s
  | .errI, .neq => .ok (ti.t = .iface) True (.d (.bool true)) s
  | _, _ => .stop

def unR (op : UnOp) (a : AV) (s : AS) : SR :=
  match op, a with
  | .not, .d (.bool b) => .ok True True (.d (.bool (!b))) s
  | .neg, .d (.int k m) => .ok True True (.d (.int k (k.wrap (0 - m)))) s
  | _, _ => .stop

def convR (src dst : TyI) (a : AV) (s : AS) : SR :=
  match a with
  | .d (.int _ m) => match dst.t with
    | .int k' => .ok (src.t.known = true) True (.d (.int k' (k'.wrap m))) s
    | _ => .stop
  | .d (.sl sz xs _) => match src.t, dst.t, bytesI xs with
    | .slice e, .str, some ns => .ok ((TT.T e).t = .int .u8 ∧ sz = 1) True (.d (.str (ns.map fun n => UInt8.ofNat n.toNat))) s
    | _, _, _ => .stop
  | _ => .stop

def capsOf : List AV → Option (List Nat)
  | [] => some []
  | .ptr o 0 :: l => match capsOf l with
    | some os => some (o :: os)
    | none => none
  | _ => none

def funcR (fn : Fn) (first : Array Operand) (caps : List AV) (s : AS) : SR :=
  match fn, first.toList, capsOf caps with
  | .func f, [], some os => .ok True True (.fn f os) s
  | _, _, _ => .stop

def makeR (ti : TyI) (a b : AV) (s : AS) : SR :=
  match ti.t, a, b with
  | .slice e, .d (.int .i64 n), .d (.int .i64 m) => match (TT.T e).zero with
    | some z => .ok (n = m ∧ (TT.T e).t.known = true ∧ 0 < (TT.T e).size ∧ 0 < (TT.T e).bytes ∧ 0 ≤ n ∧ n.toNat * (TT.T e).bytes ≤ 281474976710656) True (.arr s.objs.length n.toNat (TT.T e).size) { s with objs := s.objs ++ [.cells (zeros z n.toNat)] }
    | none => .stop
  | _, _, _ => .stop

def sliceR (ti : TyI) (a : AV) (lo : Option Int) (hi : Int → Option Int) (s : AS) : SR :=
  match a with
  | .d (.str l) => match ti.t, lo, hi l.length with
    | .str, some i, some j => .ok (0 ≤ i ∧ i ≤ j ∧ j ≤ l.length) True (.d (.str ((l.drop i.toNat).take (j.toNat - i.toNat)))) s
    | _, _, _ => .stop
  | .d (.sl sz xs _) => match ti.t, lo, hi xs.length with
    | .slice e, some i, some j => .ok ((TT.T e).t.known = true ∧ (TT.T e).size = sz ∧ 0 ≤ i ∧ i ≤ j ∧ j ≤ xs.length) True (.d (.sl sz ((xs.drop i.toNat).take (j.toNat - i.toNat)) .no)) s
    | _, _, _ => .stop
  | _ => .stop

def faddrR (ti : TyI) (a : AV) (f : Nat) (s : AS) : SR :=
  match ti.t with
  | .strct fs => match fs[f]? with
    | some (fo, ft) => match a with
      | .ptr o off => .ok ((TT.T ft).t.known = true ∧ (TT.T ft).size ≠ 0) True (.ptr o (off + fo)) s
      | .elem cs => .ok ((TT.T ft).t.known = true ∧ (TT.T ft).size ≠ 0) True (.elem (cs.drop fo)) s
      | _ => .stop
    | none => .stop
  | _ => .stop

def fieldR (ti : TyI) (a : AV) (f : Nat) (s : AS) : SR :=
  match ti.t with
  | .strct fs => match fs[f]? with
    | some (fo, ft) => match a with
      | .agg cs => .ok ((TT.T ft).t.known = true ∧ fo + (TT.T ft).size ≤ cs.length ∧ ((TT.T ft).t.agg = false → (TT.T ft).size = 1)) True (mkV (TT.T ft) ((cs.drop fo).take (TT.T ft).size)) s
      | _ => .stop
    | none => .stop
  | _ => .stop

/-- An element; beyond the end the last one. -/
def pickL : List (List DV) → Nat → List DV
  | [], _ => []
  | [x], _ => x
  | x :: y :: l, k => if k = 0 then x else pickL (y :: l) (k - 1)
theorem pickL_get : ∀ {l : List (List DV)} {k : Nat} {x : List DV}, l[k]? = some x → pickL l k = x
  | [], k, x, h => by simp at h
  | [y], k, x, h => by
    cases k with
    | zero => simpa [pickL] using h
    | succ k => simp at h
  | y :: z :: l, k, x, h => by
    cases k with
    | zero => simpa [pickL] using h
    | succ k =>
      simp only [pickL]
      rw [if_neg (by omega)]
      exact pickL_get (by simpa using h)
theorem pickL_eq {l : List (List DV)} {k : Nat} (h : k < l.length) : pickL l k = l.getD k [] := by
  rw [pickL_get (List.getElem?_eq_getElem h)]
  simp [List.getD, h]

def iaddrR (ti : TyI) (a i : AV) (s : AS) : SR :=
  match ti.t, a, i with
  | .slice e, .d (.sl sz xs _), .d (.int _ n) => .ok ((TT.T e).t.known = true ∧ (TT.T e).size = sz ∧ 0 ≤ n ∧ n.toNat < xs.length) True (.elem (pickL xs n.toNat)) s
  | .slice e, .arr o m sz, .d (.int _ n) => .ok ((TT.T e).t.known = true ∧ (TT.T e).size = sz ∧ 0 ≤ n ∧ n.toNat < m) True (.ptr o (n.toNat * sz)) s
  | _, _, _ => .stop

def indexR (ti : TyI) (a i : AV) (s : AS) : SR :=
  match a, i with
  | .d (.str l), .d (.int _ n) => .ok (ti.t = .str ∧ 0 ≤ n ∧ n.toNat < l.length) True (.d (.int .u8 ((l.getD n.toNat 0).toNat : Int))) s
  | _, _ => .stop

def lookR (ti : TyI) (m k : AV) (ok : Bool) (s : AS) : SR :=
  match ti.t, m, k with
  | .map kt et, .map o, .d key => match s.objs[o]? with
    | some (.map es) => match findE key es, (TT.T et).zero with
      | some r, some [z] => .ok (keyDesc key (TT.T kt).t = true ∧ (TT.T et).t.agg = false ∧ (TT.T et).t.known = true) True (if ok then .tup [.d (r.getD z), .d (.bool r.isSome)] else .d (r.getD z)) s
      | _, _ => .stop
    | _ => .stop
  | _, _, _ => .stop

def mupdR (ti : TyI) (m k v : AV) (s : AS) : SR :=
  match ti.t, m, k, v with
  | .map kt _, .map o, .d key, .d val => match s.objs[o]? with
    | some (.map es) => .ok (keyDesc key (TT.T kt).t = true ∧ findE key es = some none) True .unk { s with objs := s.objs.set o (.map (es ++ [(key, val)])) }
    | _ => .stop
  | _, _, _, _ => .stop

def extrR (a : AV) (i : Nat) (s : AS) : SR :=
  match a with
  | .tup vs => match vs[i]? with
    | some v => .ok True True v s
    | none => .stop
  | _ => .stop

def Ty.isSl : Ty → Bool
  | .slice _ => true
  | _ => false

theorem Ty.isSl_some {t : Ty} (h : t.isSl = true) : ∃ e, t = .slice e := by
  cases t <;> first | exact ⟨_, rfl⟩ | cases h

def lenR (ti : TyI) (a : AV) (s : AS) : SR :=
  match a with
  | .d (.sl _ xs _) => .ok (ti.t.isSl = true) (xs.length ≤ 9223372036854775807) (.d (.int .i64 xs.length)) s
  | .arr _ m _ => .ok (ti.t.isSl = true) (m ≤ 9223372036854775807) (.d (.int .i64 m)) s
  | .d (.str l) => .ok (ti.t = .str) (l.length ≤ 9223372036854775807) (.d (.int .i64 l.length)) s
  | _ => .stop

def ownOK (own : Own) (toks : List Nat) : Prop :=
  match own with
  | .no => False
  | .full => True
  | .tok t => t ∈ toks

def appR (ti : TyI) (a b : AV) (s : AS) : SR :=
  match ti.t, a, b with
  | .slice e, .d (.sl sz xs own), .d (.sl sz' ys _) => match (TT.T e).zero with
    | some _ => .ok ((TT.T e).t.known = true ∧ 0 < (TT.T e).size ∧ 0 < (TT.T e).bytes ∧ ((TT.T e).size = sz ∨ (xs = [] ∧ own = .full)) ∧ ((TT.T e).size = sz' ∨ ys = []) ∧ ownOK own s.toks ∧ (own = .full → xs = [] ∨ ys ≠ []) ∧ (xs.length + ys.length) * (TT.T e).bytes ≤ 140737488355328) True
        (.d (.sl (TT.T e).size (xs ++ ys) (.tok s.nt))) { s with toks := s.nt :: dropTok own s.toks, nt := s.nt + 1 }
    | none => .stop
  | _, _, _ => .stop

def mmR (isMax : Bool) (args : List AV) (s : AS) : SR :=
  match args with
  | .d (.int k m) :: l => match foldI (if isMax then fun a b => if b > a then b else a else fun a b => if b < a then b else a) m l with
    | some r => .ok True True (.d (.int k r)) s
    | none => .stop
  | _ => .stop

def callR (f : AV) (args : List AV) : SR :=
  match f with
  | .fn g caps => .call g (args.map AV.er ++ capsV caps)
  | _ => .stop

def callS (s : AS) (c : Callee) (args : List Operand) (tys : List TypeId) : SR :=
  match c with
  | .value f => callR (ev s f) (args.map (ev s))
  | .invoke _ _ => .stop
  | .builtin b => match b with
    | .len => match args, tys with
      | [x], [T] => lenR (TT.T T) (ev s x) s
      | _, _ => .stop
    | .append => match args, tys with
      | [x, y], [T, U] => if T = U then appR TT (TT.T T) (ev s x) (ev s y) s else .stop
      | _, _ => .stop
    | .max => mmR true (args.map (ev s)) s
    | .min => mmR false (args.map (ev s)) s
    | _ => .stop

/-- One operation. -/
def stp (s : AS) : Op → SR
  | .move x => .ok True True (ev s x) s
  | .assign x => .ok True True (ev s x) s
  | .pick c x y => pickR (ev s c) (ev s x) (ev s y) s
  | .alloc T => allocR (TT.T T) s
  | .box _ x => boxR (ev s x) s
  | .build T parts => buildR TT (TT.T T) (partsV s parts) s
  | .buildSlice T n parts => bsliceR TT (TT.T T) n (partsV s parts) s
  | .load T x => loadR (TT.T T) (ev s x) s
  | .store T x y => storeR (TT.T T) (ev s x) (ev s y) s
  | .nilCheck x => nilR (ev s x) s
  | .binOp op T x y _ => match y with
    | .const .nilIface => errR op (TT.T T) (ev s x) s
    | _ => binR (P := P) op (TT.T T) T (ev s x) (ev s y) s
  | .unOp op _ x => unR op (ev s x) s
  | .convert T U x => convR TT (TT.T T) (TT.T U) (ev s x) s
  | .makeFunc fn first caps => funcR fn first (caps.toList.map (ev s)) s
  | .makeMap _ none => .ok True True (.map s.objs.length) { s with objs := s.objs ++ [.map []] }
  | .makeSlice T x y => makeR TT (TT.T T) (ev s x) (ev s y) s
  | .slice T x lo hi none => sliceR TT (TT.T T) (ev s x) (bnd s lo 0) (bnd s hi) s
  | .fieldAddr T x f => faddrR TT (TT.T T) (ev s x) f s
  | .field T x f => fieldR TT (TT.T T) (ev s x) f s
  | .indexAddr T x i => iaddrR TT (TT.T T) (ev s x) (ev s i) s
  | .index T x i => indexR (TT.T T) (ev s x) (ev s i) s
  | .lookup T x i ok => lookR TT (TT.T T) (ev s x) (ev s i) ok s
  | .mapUpdate T x k v => mupdR TT (TT.T T) (ev s x) (ev s k) (ev s v) s
  | .extract x i => extrR (ev s x) i s
  | .call c => callS TT s c.callee c.args.toList c.argTypes.toList
  | _ => .stop

end

def SROK (P : Program) (E : Ent) (s : AS) (op : Op) (ty : TypeId) : SR → Prop
  | .ok pre fact v s' => pre → OpOK P E s op ty fun v0 s0 => fact ∧ v0 = v ∧ s0 = s'
  | .call g args => ∀ K, CallV P E s g args K → OpOK P E s op ty K
  | .stop => True

section
variable {P : Program} (TT : Tab P) {E : Ent} {s : AS} {ty : TypeId}

theorem known_ne {t : Ty} (h : t.known = true) : t ≠ .other := by intro e; rw [e] at h; cases h

theorem capsOf_some : ∀ {l : List AV} {os : List Nat}, capsOf l = some os → l = os.map fun o => AV.ptr o 0
  | [], os, h => by simp only [capsOf, Option.some.injEq] at h; subst h; rfl
  | v :: l, os, h => by
    cases v with
    | ptr o off =>
      cases off with
      | zero =>
        simp only [capsOf] at h
        cases hl : capsOf l with
        | none => simp [hl] at h
        | some os' => simp only [hl, Option.some.injEq] at h; subst h; simp [capsOf_some hl]
      | succ n => simp [capsOf] at h
    | _ => simp [capsOf] at h

theorem step_ok (op : Op) : SROK P E s op ty (stp TT s op) := by
  cases op
  case move x => exact fun _ => op_move ⟨trivial, rfl, rfl⟩
  case assign x => exact fun _ => op_assign ⟨trivial, rfl, rfl⟩
  case pick c x y =>
    simp only [stp, pickR]
    split
    · rename_i t hc
      exact fun _ => op_pick hc ⟨trivial, by split <;> rfl, rfl⟩
    · trivial
  case alloc T =>
    simp only [stp, allocR]
    split
    · rename_i z hz
      exact fun hk => op_alloc TT hz (known_ne hk) ⟨trivial, rfl, rfl⟩
    · trivial
  case box T x =>
    simp only [stp, boxR]
    split
    · rename_i cs hc
      exact fun _ => op_box hc ⟨trivial, rfl, rfl⟩
    · trivial
  case build T parts =>
    simp only [stp, buildR]
    split
    · rename_i fs z ht hz
      split
      · rename_i out hf
        exact fun hk => op_build TT ht hz hk hf ⟨trivial, rfl, rfl⟩
      · trivial
    · trivial
  case buildSlice T n parts =>
    simp only [stp, bsliceR]
    split
    · rename_i e ht
      split
      · rename_i z hz
        split
        · rename_i out hf
          exact fun ⟨h1, h2, h3⟩ => op_buildSlice TT ht h1 hz h2 h3 hf ⟨trivial, rfl, rfl⟩
        · trivial
      · trivial
    · trivial
  case load T x =>
    simp only [stp, loadR]
    split
    · rename_i o off hx
      split
      · rename_i cs ho
        exact fun ⟨h1, h2, h3⟩ => op_load_obj TT hx ho h1 h2 h3 ⟨trivial, rfl, rfl⟩
      · trivial
    · rename_i cs hx
      exact fun ⟨h1, h2, h3⟩ => op_load_elem TT hx h1 h2 h3 ⟨trivial, rfl, rfl⟩
    · trivial
  case store T x y =>
    simp only [stp, storeR]
    split
    · rename_i o off ys hx hy
      split
      · rename_i cs ho
        exact fun ⟨h1, h2, h3⟩ => op_store TT hx ho hy h1 h2 h3 ⟨trivial, rfl, rfl⟩
      · trivial
    · trivial
  case nilCheck x =>
    simp only [stp, nilR]
    split
    · rename_i o off hx
      exact fun _ => op_nilCheck ⟨trivial, hx, rfl⟩ (.inl ⟨o, off, hx⟩)
    · rename_i cs hx
      exact fun _ => op_nilCheck ⟨trivial, hx, rfl⟩ (.inr ⟨cs, hx⟩)
    · trivial
  case binOp op T x y U =>
    simp only [stp]
    split
    · simp only [errR]
      split
      · rename_i hx
        exact fun ht => op_bin_err TT (nil := true) (by simpa using hx) rfl ht (.inl rfl) ⟨trivial, rfl, rfl⟩
      · rename_i hx
        exact fun ht => op_bin_err TT (nil := true) (by simpa using hx) rfl ht (.inr rfl) ⟨trivial, rfl, rfl⟩
      · rename_i hx
        exact fun ht => op_bin_err TT (nil := false) (by simpa using hx) rfl ht (.inl rfl) ⟨trivial, rfl, rfl⟩
      · rename_i hx
        exact fun ht => op_bin_err TT (nil := false) (by simpa using hx) rfl ht (.inr rfl) ⟨trivial, rfl, rfl⟩
      · trivial
    · simp only [binR]
      split
      · rename_i k m k' n hx hy
        split
        · split
          · rename_i r hr
            exact fun _ => op_bin_sh hx hy hr ⟨trivial, rfl, rfl⟩
          · trivial
        · split
          · rename_i r hr
            exact fun _ => op_bin_sh hx hy hr ⟨trivial, rfl, rfl⟩
          · trivial
        · split
          · rename_i r hr
            intro hk
            subst hk
            exact op_bin_int hx hy hr ⟨trivial, rfl, rfl⟩
          · trivial
      · rename_i m n hx hy
        split
        · intro hl
          exact op_bin_str hx hy (by simp only [binS, hl, if_true]) ⟨trivial, rfl, rfl⟩
        · split
          · rename_i r hr
            exact fun _ => op_bin_str hx hy hr ⟨trivial, rfl, rfl⟩
          · trivial
      · rename_i m n hx hy
        split
        · exact fun ht => op_bin_bool TT hx hy ht (.inl rfl) ⟨trivial, rfl, rfl⟩
        · exact fun ht => op_bin_bool TT hx hy ht (.inr rfl) ⟨trivial, rfl, rfl⟩
        · trivial
      · rename_i cs ds hx hy
        split
        · rename_i b hb
          exact fun he => op_bin_agg hx hy he (.inl rfl) hb ⟨trivial, rfl, rfl⟩
        · rename_i b hb
          exact fun he => op_bin_agg hx hy he (.inr rfl) hb ⟨trivial, rfl, rfl⟩
        · trivial
      · trivial
  case unOp op T x =>
    simp only [stp, unR]
    split
    · rename_i b hx
      exact fun _ => op_not hx ⟨trivial, rfl, rfl⟩
    · rename_i k m hx
      exact fun _ => op_neg hx ⟨trivial, rfl, rfl⟩
    · trivial
  case convert T U x =>
    simp only [stp, convR]
    split
    · rename_i k m hx
      split
      · rename_i k' hu
        exact fun hk => op_convert_int TT hx hk hu ⟨trivial, rfl, rfl⟩
      · trivial
    · rename_i sz xs own hx
      split
      · rename_i e ns ht hu hb
        rintro ⟨he, rfl⟩
        exact op_convert_bytes TT hx ht he hu hb ⟨trivial, rfl, rfl⟩
      · trivial
    · trivial
  case makeFunc fn first caps =>
    simp only [stp, funcR]
    split
    · rename_i f os hf hc
      have hf' : first = #[] := by apply Array.ext'; simpa using hf
      subst hf'
      exact fun _ => op_makeFunc (capsOf_some hc) ⟨trivial, rfl, rfl⟩
    · trivial
  case makeMap T r =>
    cases r with
    | none => exact fun _ => op_makeMap ⟨trivial, rfl, rfl⟩
    | some r => trivial
  case makeSlice T x y =>
    simp only [stp, makeR]
    split
    · rename_i e n m ht hx hy
      split
      · rename_i z hz
        rintro ⟨rfl, h1, h2, h3, h4, h5⟩
        exact op_makeSlice TT hx hy ht h1 hz h2 h3 h4 h5 ⟨trivial, rfl, rfl⟩
      · trivial
    · trivial
  case slice T x lo hi mx =>
    cases mx with
    | some m => trivial
    | none =>
      simp only [stp, sliceR]
      split
      · rename_i l hx
        split
        · rename_i i j ht hi hj
          exact fun ⟨h1, h2, h3⟩ => op_slice_str TT hx ht hi hj h1 h2 h3 ⟨trivial, rfl, rfl⟩
        · trivial
      · rename_i sz xs own hx
        split
        · rename_i e i j ht hi hj
          exact fun ⟨h1, h2, h3, h4, h5⟩ => op_slice_sl TT hx ht h1 h2 hi hj h3 h4 h5 ⟨trivial, rfl, rfl⟩
        · trivial
      · trivial
  case fieldAddr T x f =>
    simp only [stp, faddrR]
    split
    · rename_i fs ht
      split
      · rename_i fo ft hf
        split
        · rename_i o off hx
          exact fun ⟨h1, h2⟩ => op_fieldAddr_obj TT hx ht hf h1 h2 ⟨trivial, rfl, rfl⟩
        · rename_i cs hx
          exact fun ⟨h1, h2⟩ => op_fieldAddr_elem TT hx ht hf h1 h2 ⟨trivial, rfl, rfl⟩
        · trivial
      · trivial
    · trivial
  case field T x f =>
    simp only [stp, fieldR]
    split
    · rename_i fs ht
      split
      · rename_i fo ft hf
        split
        · rename_i cs hx
          exact fun ⟨h1, h2, h3⟩ => op_field TT hx ht hf h1 h2 h3 ⟨trivial, rfl, rfl⟩
        · trivial
      · trivial
    · trivial
  case indexAddr T x i =>
    simp only [stp, iaddrR]
    split
    · rename_i e sz xs own k n ht hx hy
      exact fun ⟨h1, h2, h3, h4⟩ => op_indexAddr TT hx hy ht h1 h2 h3 h4 ⟨trivial, by rw [pickL_eq h4], rfl⟩
    · rename_i e o m sz k n ht hx hy
      exact fun ⟨h1, h2, h3, h4⟩ => op_indexAddr_arr TT hx hy ht h1 h2 h3 h4 ⟨trivial, rfl, rfl⟩
    · trivial
  case index T x i =>
    simp only [stp, indexR]
    split
    · rename_i l k n hx hy
      exact fun ⟨h1, h2, h3⟩ => op_index_str TT hx hy h1 h2 h3 ⟨trivial, rfl, rfl⟩
    · trivial
  case lookup T x i ok =>
    simp only [stp, lookR]
    split
    · rename_i kt et o key ht hx hy
      split
      · rename_i es ho
        split
        · rename_i r z hf hz
          exact fun ⟨h1, h2, h3⟩ => op_lookup TT hx ho hy ht h1 hz h2 h3 hf ⟨trivial, rfl, rfl⟩
        · trivial
      · trivial
    · trivial
  case mapUpdate T x k v =>
    simp only [stp, mupdR]
    split
    · rename_i kt et o key val ht hx hy hz
      split
      · rename_i es ho
        exact fun ⟨h1, h2⟩ => op_mapUpdate TT hx ho hy hz ht h1 h2 ⟨trivial, rfl, rfl⟩
      · trivial
    · trivial
  case extract x i =>
    simp only [stp, extrR]
    split
    · rename_i vs hx
      split
      · rename_i v hv
        exact fun _ => op_extract hx hv ⟨trivial, rfl, rfl⟩
      · trivial
    · trivial
  case call c =>
    obtain ⟨callee, args, tys⟩ := c
    simp only [stp]
    cases callee with
    | value f =>
      simp only [callS, callR]
      split
      · rename_i g caps hf
        exact fun K h => op_call hf h.er
      · trivial
    | invoke r m => trivial
    | builtin b =>
      simp only [callS]
      split
      · split
        · rename_i x T ha ht
          have ha' : args = #[x] := by apply Array.ext'; simpa using ha
          have ht' : tys = #[T] := by apply Array.ext'; simpa using ht
          subst ha'
          simp only [lenR]
          split
          · rename_i hx
            intro he
            obtain ⟨e, he⟩ := Ty.isSl_some he
            exact op_len TT hx he ht' fun hl => ⟨hl, rfl, rfl⟩
          · rename_i hx
            intro he
            obtain ⟨e, he⟩ := Ty.isSl_some he
            exact op_len_arr TT hx he ht' fun hl => ⟨hl, rfl, rfl⟩
          · rename_i hx
            exact fun he => op_len_str TT hx he ht' fun hl => ⟨hl, rfl, rfl⟩
          · trivial
        · trivial
      · split
        · rename_i x y T U ha ht
          have ha' : args = #[x, y] := by apply Array.ext'; simpa using ha
          have ht' : tys = #[T, U] := by apply Array.ext'; simpa using ht
          subst ha'
          split
          · rename_i hTU
            subst hTU
            simp only [appR]
            split
            · rename_i e sz xs own sz' ys own' hT hx hy
              split
              · rename_i z hz
                rintro ⟨h1, h2, h3, h4, h5, h6, h8, h7⟩
                refine op_append TT hx hy ht' hT h1 hz h2 h3 h4 h5 ?_ h8 h7 ⟨trivial, rfl, rfl⟩
                cases own with
                | no => exact h6.elim
                | full => exact .inl rfl
                | tok t => exact .inr ⟨t, rfl, h6⟩
              · trivial
            · trivial
          · trivial
        · trivial
      · simp only [mmR]
        split
        · rename_i k m l hl
          split
          · rename_i r hr
            cases ha : args.toList with
            | nil => simp [ha] at hl
            | cons x rest =>
              simp only [ha, List.map_cons, List.cons.injEq] at hl
              intro _
              exact op_minmax (isMax := true) ha hl.1 (by rw [hl.2]; exact hr) ⟨trivial, rfl, rfl⟩
          · trivial
        · trivial
      · simp only [mmR]
        split
        · rename_i k m l hl
          split
          · rename_i r hr
            cases ha : args.toList with
            | nil => simp [ha] at hl
            | cons x rest =>
              simp only [ha, List.map_cons, List.cons.injEq] at hl
              intro _
              exact op_minmax (isMax := false) ha hl.1 (by rw [hl.2]; exact hr) ⟨trivial, rfl, rfl⟩
          · trivial
        · trivial
      · trivial
  all_goals trivial

end
end Go.AL

namespace Go.AL
open Go
set_option linter.unusedSectionVars false
variable [Inhabited Glob]
set_option linter.unusedSimpArgs false

section
variable {P : Program} (TT : Tab P) (E : Ent)

/-- What is left of a region. 'all': the slots of its operations, for the guards. -/
def rvc (all : List (Option Nat)) : List Oper → AS → (AS → Prop) → Prop
  | [], s, K => K s
  | o :: rest, s, K =>
    match o.guard with
    | none => match stp TT s o.op with
      | .ok pre fact v s' => pre ∧ (fact → rvc all rest (s'.put o.dst v) K)
      | .call g args => CallV P E s g args fun v s' => rvc all rest (s'.put o.dst v) K
      | .stop => False
    | some (j, want) => match all[j]? with
      | some (some t) => match getE s.env t with
        | .d (.bool b) => (b = want → match stp TT s o.op with
            | .ok pre fact v s' => pre ∧ (fact → rvc all rest (s'.put o.dst v) K)
            | .call g args => CallV P E s g args fun v s' => rvc all rest (s'.put o.dst v) K
            | .stop => False) ∧ (b = !want → rvc all rest (s.put o.dst (.tup [])) K)
        | .tup [] => rvc all rest (s.put o.dst (.tup [])) K
        | _ => False
      | _ => False

def stepK (all : List (Option Nat)) (r : SR) (dst : Option Nat) (rest : List Oper) (s : AS) (K : AS → Prop) : Prop :=
  match r with
  | .ok pre fact v s' => pre ∧ (fact → rvc TT E all rest (s'.put dst v) K)
  | .call g args => CallV P E s g args fun v s' => rvc TT E all rest (s'.put dst v) K
  | .stop => False

def guardK (all : List (Option Nat)) (v : AV) (want : Bool) (op : Op) (dst : Option Nat) (rest : List Oper) (s : AS) (K : AS → Prop) : Prop :=
  match v with
  | .d (.bool b) => (b = want → stepK TT E all (stp TT s op) dst rest s K) ∧ (b = !want → rvc TT E all rest (s.put dst (.tup [])) K)
  | .tup [] => rvc TT E all rest (s.put dst (.tup [])) K
  | _ => False

def guardG (all : List (Option Nat)) (x : Option (Option Nat)) (want : Bool) (op : Op) (dst : Option Nat) (rest : List Oper) (s : AS) (K : AS → Prop) : Prop :=
  match x with
  | some (some t) => guardK TT E all (getE s.env t) want op dst rest s K
  | _ => False

/-- A call, with what is left of the region behind it. -/
def callK (all : List (Option Nat)) (g : FuncId) (args : List AV) (dst : Option Nat) (rest : List Oper) (s : AS) (K : AS → Prop) : Prop :=
  CallV P E s g args fun v s' => rvc TT E all rest (s'.put dst v) K

def gslot (all : List (Option Nat)) (j : Nat) : Nat := ((all[j]?).bind id).getD 0

variable {all : List (Option Nat)} {s : AS} {K : AS → Prop} {op : Op} {dst : Option Nat} {ty : TypeId} {pos : String} {after : Array Edge} {rest : List Oper}

theorem rvc_nil : rvc TT E all [] s K = K s := id rfl
theorem rvc_plain : rvc TT E all (⟨dst, op, ty, pos, after, none⟩ :: rest) s K = stepK TT E all (stp TT s op) dst rest s K := id rfl
theorem rvc_guard {j : Nat} {want : Bool} : rvc TT E all (⟨dst, op, ty, pos, after, some (j, want)⟩ :: rest) s K = guardG TT E all (all[j]?) want op dst rest s K := by
  simp only [rvc, guardG]
  cases h : all[j]? with
  | none => rfl
  | some x => cases x <;> rfl
theorem guardG_some {t : Nat} {want : Bool} : guardG TT E all (some (some t)) want op dst rest s K = guardK TT E all (getE s.env t) want op dst rest s K := id rfl
theorem stepK_ok {pre fact : Prop} {v : AV} {s' : AS} : stepK TT E all (.ok pre fact v s') dst rest s K = (pre ∧ (fact → rvc TT E all rest (s'.put dst v) K)) := id rfl
theorem stepK_call {g : FuncId} {args : List AV} : stepK TT E all (.call g args) dst rest s K = callK TT E all g args dst rest s K := id rfl
theorem stepK_stop : stepK TT E all .stop dst rest s K = False := id rfl
theorem guardK_tt : guardK TT E all (.d (.bool true)) true op dst rest s K = stepK TT E all (stp TT s op) dst rest s K := by simp [guardK]
theorem guardK_tf : guardK TT E all (.d (.bool true)) false op dst rest s K = rvc TT E all rest (s.put dst (.tup [])) K := by simp [guardK]
theorem guardK_ft : guardK TT E all (.d (.bool false)) true op dst rest s K = rvc TT E all rest (s.put dst (.tup [])) K := by simp [guardK]
theorem guardK_ff : guardK TT E all (.d (.bool false)) false op dst rest s K = stepK TT E all (stp TT s op) dst rest s K := by simp [guardK]
theorem guardK_un {want : Bool} : guardK TT E all (.tup []) want op dst rest s K = rvc TT E all rest (s.put dst (.tup [])) K := id rfl
end

theorem undef_res {E : Ent} {s : AS} {a : Act} {w : World} (hs : Sim E s a w) : Res E s a (.tup []) undef w := by
  obtain ⟨I, τ, ρ, h1, h2⟩ := hs.ex
  exact ⟨I, τ, ρ, h1, h2, .tup [] [] rfl (by simp)⟩

theorem rep_undef {I : IH} {τ : TH} {ρ : Nat → Nat} {n : Nat} {x : Value} (h : RepA I τ ρ n (.tup []) x) : x = undef := by
  cases h with
  | tup _ ws hl _ =>
    have : ws = [] := List.eq_nil_of_length_eq_zero (by simpa using hl.symm)
    subst this; rfl

theorem rvc_sound {P : Program} {TT : Tab P} {E : Ent} {all : Array Oper} {K : AS → Prop} {Q : Exit → Act → World → Prop} (hq : ∀ s' a' w', K s' → Sim E s' a' w' → Q .normal a' w') :
    ∀ (rest : List Oper) (s : AS) (a : Act) (w : World), (rest.all fun o => o.dst.all fun d => decide (d < E.n)) = true → Sim E s a w → rvc TT E (all.toList.map (·.dst)) rest s K → wpList P all Q rest a w := by
  intro rest
  induction rest with
  | nil => intro s a w _ hs h; exact hq s a w h hs
  | cons o rest ih =>
    intro s a w hd hs h
    obtain ⟨dst, op, ty, pos, after, guard⟩ := o
    simp only [List.all_cons, Bool.and_eq_true] at hd
    have hdst : ∀ d, dst = some d → d < E.n := fun d hdd => by
      have := hd.1
      simp only [hdd, Option.all_some, decide_eq_true_eq] at this
      exact this
    have hstep := step_ok (P := P) (E := E) (s := s) (ty := ty) TT op
    have go : ∀ (g : Option (Nat × Bool)), (match stp TT s op with
      | .ok pre fact v s' => pre ∧ (fact → rvc TT E (all.toList.map (·.dst)) rest (s'.put dst v) K)
      | .call g args => CallV P E s g args fun v s' => rvc TT E (all.toList.map (·.dst)) rest (s'.put dst v) K
      | .stop => False) → (Oper.mk dst op ty pos after g).wp P a w (wpList P all Q rest) Q := by
      intro g hr
      cases hst : stp TT s op with
      | ok pre fact v s' =>
        rw [hst] at hr hstep
        refine (hstep hr.1).wp hs hdst fun v0 s0 ⟨h1, h2, h3⟩ _ a' w' hs' => ?_
        subst h2; subst h3
        exact ih _ a' w' hd.2 hs' (hr.2 h1)
      | call f args =>
        rw [hst] at hr hstep
        exact (hstep _ hr).wp hs hdst fun v0 s0 hk _ a' w' hs' => ih _ a' w' hd.2 hs' hk
      | stop => rw [hst] at hr; exact hr.elim
    unfold wpList
    cases guard with
    | none =>
      rw [if_pos (by simp [Region.wanted])]
      exact .inl (go none h)
    | some jw =>
      obtain ⟨j, want⟩ := jw
      simp only [rvc] at h
      split at h
      · rename_i t ht
        split at h
        · rename_i b hb
          obtain ⟨I, τ, ρ, h1, h2⟩ := hs.ex
          have hv := h2 t
          rw [hb] at hv
          have hbv := rep_bool hv
          have hy : yielded all a.tmps j = some b := by
            simp only [List.getElem?_map, Array.getElem?_toList, Option.map_eq_some_iff] at ht
            obtain ⟨o, ho, hod⟩ := ht
            have hbv' : a.tmps[t]? = some (.bool b) := by
              simp only [Array.getD_eq_getD_getElem?] at hbv
              cases hq : a.tmps[t]? with
              | none => rw [hq] at hbv; simp [undef] at hbv
              | some x => rw [hq] at hbv; simpa using hbv
            simp [yielded, ho, hod, hbv']
          by_cases hw : b = want
          · rw [if_pos (by simp [Region.wanted, hy, hw])]
            exact .inl (go _ (h.1 hw))
          · rw [if_neg (by simp [Region.wanted, hy, hw])]
            refine ih _ _ w hd.2 ?_ (h.2 (by cases b <;> cases want <;> simp_all))
            exact (undef_res hs).sim dst hs.sz hs.df hdst
        · rename_i hb
          obtain ⟨I, τ, ρ, h1, h2⟩ := hs.ex
          have hv := h2 t
          rw [hb] at hv
          have hbv := rep_undef hv
          have hy : yielded all a.tmps j = none := by
            simp only [List.getElem?_map, Array.getElem?_toList, Option.map_eq_some_iff] at ht
            obtain ⟨o, ho, hod⟩ := ht
            simp only [Array.getD_eq_getD_getElem?] at hbv
            cases hq : a.tmps[t]? with
            | none => simp [yielded, ho, hod, hq]
            | some x => rw [hq] at hbv; simp at hbv; subst hbv; simp [yielded, ho, hod, hq, undef]
          rw [if_neg (by simp [Region.wanted, hy])]
          exact ih _ _ w hd.2 ((undef_res hs).sim dst hs.sz hs.df hdst) h
        · exact h.elim
      · exact h.elim

/-! ### The walk over code -/

/-- All slots that the code writes lie in the frame. -/
def codeOK (n : Nat) : Code → Bool
  | .region _ ops _ => ops.toList.all fun o => o.dst.all fun d => decide (d < n)
  | .seq a b => codeOK n a && codeOK n b
  | .cond _ a b => codeOK n a && codeOK n b
  | .block _ c => codeOK n c
  | .loop c => codeOK n c
  | _ => true

def AWp (P : Program) (E : Ent) (c : Code) (Q : Exit → AS → Prop) (s : AS) : Prop :=
  codeOK E.n c = true → ∀ (a : Act) (w : World), Sim E s a w → c.wp P (fun e a' w' => ∃ s', Q e s' ∧ Sim E s' a' w') a w

section
variable {P : Program} {E : Ent} {Q : Exit → AS → Prop} {s : AS}

theorem awp_weak {c : Code} {s' : AS} (h : ∀ a w, Sim E s a w → Sim E s' a w) (h' : AWp P E c Q s') : AWp P E c Q s := fun hc a w hs => h' hc a w (h a w hs)

def AThen (next : AS → Prop) (Q : Exit → AS → Prop) : Exit → AS → Prop
  | .normal, s => next s
  | e, s => Q e s

theorem awp_seq {x y : Code} (h : AWp P E x (AThen (AWp P E y Q) Q) s) : AWp P E (.seq x y) Q s := fun hc a w hs => by
  simp only [codeOK, Bool.and_eq_true] at hc
  exact wp_seq (Go.wp_mono (h hc.1 a w hs) fun e a' w' ⟨s', hq, hs'⟩ => by
    cases e with
    | normal => exact hq hc.2 a' w' hs'
    | _ => exact ⟨s', hq, hs'⟩)

def ABlock (id : Nat) (Q : Exit → AS → Prop) : Exit → AS → Prop
  | .exit id', s => if id' = id then Q .normal s else Q (.exit id') s
  | e, s => Q e s

theorem awp_block {id : Nat} {c : Code} (h : AWp P E c (ABlock id Q) s) : AWp P E (.block id c) Q s := fun hc a w hs =>
  wp_block (Go.wp_mono (h hc a w hs) fun e a' w' ⟨s', hq, hs'⟩ => by
    cases e with
    | exit id' =>
      simp only [ABlock] at hq
      simp only [Exit.inBlock]
      split
      · rename_i he; rw [if_pos he] at hq; exact ⟨s', hq, hs'⟩
      · rename_i he; rw [if_neg he] at hq; exact ⟨s', hq, hs'⟩
    | _ => exact ⟨s', hq, hs'⟩)

theorem awp_skip (h : Q .normal s) : AWp P E .skip Q s := fun _ _ _ hs => wp_skip ⟨s, h, hs⟩
theorem awp_ret (h : Q .ret s) : AWp P E .ret Q s := fun _ _ _ hs => wp_ret ⟨s, h, hs⟩
theorem awp_exit {id : Nat} (h : Q (.exit id) s) : AWp P E (.exit id) Q s := fun _ _ _ hs => wp_exit ⟨s, h, hs⟩

theorem awp_cond {c : Operand} {x y : Code} {b : Bool} (hc : ev s c = .d (.bool b)) (ht : b = true → AWp P E x Q s) (hf : b = false → AWp P E y Q s) : AWp P E (.cond c x y) Q s := fun hok a w hs => by
  simp only [codeOK, Bool.and_eq_true] at hok
  obtain ⟨I, τ, ρ, _, h2⟩ := hs.ex
  have hv := ev_rep h2 c
  rw [hc] at hv
  exact wp_cond_split (rep_bool hv) (fun h => ht h hok.1 a w hs) (fun h => hf h hok.2 a w hs)

theorem awp_cond_t {c : Operand} {x y : Code} (hc : ev s c = .d (.bool true)) (h : AWp P E x Q s) : AWp P E (.cond c x y) Q s := awp_cond hc (fun _ => h) (fun e => by cases e)
theorem awp_cond_f {c : Operand} {x y : Code} (hc : ev s c = .d (.bool false)) (h : AWp P E y Q s) : AWp P E (.cond c x y) Q s := awp_cond hc (fun e => by cases e) (fun _ => h)

theorem awp_region (TT : Tab P) {id : Nat} {l : List Oper}
    (h : ∀ K : AS → Prop, (∀ s', Q .normal s' → K s') → rvc TT E (l.map (·.dst)) l s K) : AWp P E (.region id l.toArray false) Q s := fun hok a w hs => by
  simp only [codeOK] at hok
  refine wp_region_lit (rvc_sound (TT := TT) (all := l.toArray) (K := Q .normal) (fun s' a' w' hk hs' => ⟨s', hk, hs'⟩) l s a w hok hs ?_)
  have := h (Q .normal) (fun _ h => h)
  simpa using this

/-- A region, and what stands behind it. -/
theorem awp_seqr (TT : Tab P) {id : Nat} {l : List Oper} {y : Code}
    (h : ∀ K : AS → Prop, (∀ s', AWp P E y Q s' → K s') → rvc TT E (l.map (·.dst)) l s K) : AWp P E (.seq (.region id l.toArray false) y) Q s :=
  awp_seq (awp_region TT fun K hK => h K fun s' h' => hK s' h')

/-- A loop: I m s: m bounds the rounds that are still to come. -/
theorem awp_loop {c : Code} (I : Nat → AS → Prop) (m : Nat) (h0 : I m s)
    (round : ∀ m s, I m s → AWp P E c (AThen (fun s' => ∃ m' s'', m' < m ∧ (∀ a w, Sim E s' a w → Sim E s'' a w) ∧ I m' s'') Q) s) : AWp P E (.loop c) Q s := by
  intro hok
  have key : ∀ m, ∀ s, I m s → ∀ (a : Act) (w : World), Sim E s a w → (Code.loop c).wp P (fun e a' w' => ∃ s', Q e s' ∧ Sim E s' a' w') a w := by
    intro m0 s0 hI0 a0 w0 hs0
    let J : Act → World → Prop := fun a w => ∃ m s, I m s ∧ Sim E s a w
    let μ : Act → World → Nat := fun a w => @dite _ (J a w) (Classical.propDecidable _) (fun h => Classical.choose (show ∃ m, (∃ s, I m s ∧ Sim E s a w) ∧ ∀ m', (∃ s, I m' s ∧ Sim E s a w) → m ≤ m' from by
      have hw : ∃ m, ∃ s, I m s ∧ Sim E s a w := h
      obtain ⟨m, hm⟩ := hw
      induction m using Nat.strongRecOn with
      | _ m ih =>
        by_cases hx : ∃ m', m' < m ∧ ∃ s, I m' s ∧ Sim E s a w
        · obtain ⟨m', hlt, hm'⟩ := hx
          exact ih m' hlt hm'
        · exact ⟨m, hm, fun m' hm' => Nat.le_of_not_lt fun hlt => hx ⟨m', hlt, hm'⟩⟩)) (fun _ => 0)
    refine wp_loop J μ ⟨m0, s0, hI0, hs0⟩ fun a w hJ => ?_
    have hμ : (∃ s, I (μ a w) s ∧ Sim E s a w) ∧ ∀ m', (∃ s, I m' s ∧ Sim E s a w) → μ a w ≤ m' := by
      have : μ a w = _ := dif_pos hJ
      rw [this]
      exact Classical.choose_spec (p := fun m => (∃ s, I m s ∧ Sim E s a w) ∧ ∀ m', (∃ s, I m' s ∧ Sim E s a w) → m ≤ m') _
    obtain ⟨⟨s1, hI1, hs1⟩, _⟩ := hμ
    refine Go.wp_mono (round _ s1 hI1 hok a w hs1) fun e a' w' ⟨s', hq, hs'⟩ => ?_
    cases e with
    | normal =>
      obtain ⟨m', s'', hlt, hw, hI'⟩ := hq
      have hs'' := hw a' w' hs'
      have hJ' : J a' w' := ⟨m', s'', hI', hs''⟩
      refine ⟨hJ', Nat.lt_of_le_of_lt ?_ hlt⟩
      have : μ a' w' = _ := dif_pos hJ'
      rw [this]
      exact (Classical.choose_spec (p := fun m => (∃ s, I m s ∧ Sim E s a' w') ∧ ∀ m', (∃ s, I m' s ∧ Sim E s a' w') → m ≤ m') _).2 m' ⟨s'', hI', hs''⟩
    | _ => exact ⟨s', hq, hs'⟩
  exact key m s h0

theorem athen_normal {N : AS → Prop} (h : N s) : AThen N Q .normal s := h
theorem athen_ret {N : AS → Prop} (h : Q .ret s) : AThen N Q .ret s := h
theorem athen_exit {N : AS → Prop} {id : Nat} (h : Q (.exit id) s) : AThen N Q (.exit id) s := h
theorem ablock_normal {id : Nat} (h : Q .normal s) : ABlock id Q .normal s := h
theorem ablock_ret {id : Nat} (h : Q .ret s) : ABlock id Q .ret s := h
theorem ablock_here {id : Nat} (h : Q .normal s) : ABlock id Q (.exit id) s := by simp only [ABlock, if_true]; exact h
theorem ablock_far {id id' : Nat} (hne : Nat.beq id' id = false) (h : Q (.exit id') s) : ABlock id Q (.exit id') s := by
  have : ¬ id' = id := fun e => by rw [e, Nat.beq_refl] at hne; cases hne
  simp only [ABlock, if_neg this]; exact h

end

/-! ### Forgetting -/

def AV.scop (m : Nat) : AV → Bool
  | .ptr o _ => decide (o < m)
  | .arr o _ _ => decide (o < m)
  | .map o => decide (o < m)
  | .fn _ caps => caps.all fun o => decide (o < m)
  | .tup vs => vs.all fun v => match v with
    | .d _ => true
    | .agg _ => true
    | .nilI => true
    | .errI => true
    | .unk => true
    | _ => false
  | _ => true

theorem RepA.scop {I : IH} {τ : TH} {ρ : Nat → Nat} {n m : Nat} {v : AV} {x : Value} (h : RepA I τ ρ n v x) (hm : v.scop m = true) : RepA I τ ρ m v x := by
  cases h with
  | d _ _ hd => exact .d _ _ hd
  | agg _ _ hl => exact .agg _ _ hl
  | ptr o off ho => exact .ptr o off (by simpa [AV.scop] using hm)
  | elem cs vs adr hs hl hI => exact .elem cs vs adr hs hl hI
  | arr o k sz ho hk => exact .arr o k sz (by simpa [AV.scop] using hm) hk
  | map o ho => exact .map o (by simpa [AV.scop] using hm)
  | fn f caps hc => exact .fn f caps (by simpa [AV.scop] using hm)
  | tup vs ws hl hr =>
    refine .tup vs ws hl fun i v w hv hw => ?_
    have h1 := hr i v w hv hw
    simp only [AV.scop, List.all_eq_true] at hm
    have h2 := hm v (List.mem_of_getElem? hv)
    cases h1 with
    | d _ _ hd => exact .d _ _ hd
    | agg _ _ hl => exact .agg _ _ hl
    | nilI => exact .nilI
    | errI _ _ => exact .errI _ _
    | unk _ => exact .unk _
    | _ => simp at h2
  | nilI => exact .nilI
  | errI _ _ => exact .errI _ _
  | nofn => exact .nofn
  | unk _ => exact .unk _

theorem St.trim {E : Ent} {objs : List AO} {toks : List Nat} {nt : Nat} {I : IH} {τ : TH} {ρ : Nat → Nat} {w : World} (h : St E objs toks nt I τ ρ w) (m : Nat) (hm : E.k ≤ m) : St E (objs.take m) toks nt I τ ρ w := by
  refine ⟨h.iok, fun i o ho => ?_, fun i hi => ?_, fun i j hi hj => ?_, fun t ht => ?_, h.tokd, h.os, h.tape, h.output, h.size, h.blk, h.ifr, h.ifl, h.rho, fun i hk hi => ?_, h.tau, ?_, h.ntle, h.i0, h.tn⟩
  · rw [List.getElem?_take] at ho
    split at ho
    · exact h.obj i o ho
    · cases ho
  · simp at hi; exact h.objI i (by omega)
  · simp at hi hj; exact h.inj i j (by omega) (by omega)
  · obtain ⟨h1, h2⟩ := h.tok t ht
    exact ⟨h1, fun b e r hb => by
      obtain ⟨g1, g2, g3, g4⟩ := h2 b e r hb
      exact ⟨g1, g2, g3, fun i hi => g4 i (by simp at hi; omega)⟩⟩
  · simp at hi; exact h.fresh i hk (by omega)
  · have := h.len; simp; omega

/-- Less is known: other slots are forgotten, the last variables and some tokens thrown away. -/
theorem sim_sub {E : Ent} {s s' : AS} {a : Act} {w : World} (m : Nat) (hm : E.k ≤ m) (ho : s'.objs = s.objs.take m) (hn : s'.nt = s.nt) (ht : ∀ t ∈ s'.toks, t ∈ s.toks)
    (he : ∀ p ∈ s'.env, p.2 = .unk ∨ (getE s.env p.1 = p.2 ∧ p.2.scop (s.objs.take m).length = true)) (hs : Sim E s a w) : Sim E s' a w := by
  obtain ⟨⟨I, τ, ρ, h1, h2⟩, h3, h4⟩ := hs
  refine ⟨⟨I, τ, ρ, ?_, fun t => ?_⟩, h3, h4⟩
  · rw [ho, hn]
    exact (h1.trim m hm).sub _ ht
  · rw [ho]
    have key : ∀ (l : List (Nat × AV)), (∀ p ∈ l, p.2 = .unk ∨ (getE s.env p.1 = p.2 ∧ p.2.scop (s.objs.take m).length = true)) → RepA I τ ρ (s.objs.take m).length (getE l t) (a.tmps.getD t undef) := by
      intro l
      induction l with
      | nil => intro _; exact .unk _
      | cons p l ih =>
        intro hl
        simp only [getE]
        split
        · rename_i htp
          rcases hl p (by simp) with hu | ⟨hg, hsc⟩
          · rw [hu]; exact .unk _
          · have := h2 t
            rw [htp, hg] at this
            rw [htp]
            exact this.scop hsc
        · exact ih fun p hp => hl p (by simp [hp])
    exact key s'.env he

/-! ### A function -/

def resList {P : Program} (TT : Tab P) (s : AS) : List ResultVar → Option (List AV)
  | [] => some []
  | .tmp t :: l => match resList TT s l with
    | some vs => some (getE s.env t :: vs)
    | none => none
  | .cell t T :: l => match getE s.env t, resList TT s l with
    | .ptr o off, some vs => match s.objs[o]? with
      | some (.cells cs) => if (TT.T T).t.known = true ∧ off + (TT.T T).size ≤ cs.length ∧ ((TT.T T).t.agg = false → (TT.T T).size = 1) then some (mkV (TT.T T) ((cs.drop off).take (TT.T T).size) :: vs) else none
      | _ => none
    | _, _ => none

def resV (vs : List AV) : AV :=
  match vs with
  | [v] => v
  | vs => .tup vs

theorem run_results {P : Program} (TT : Tab P) {s : AS} {I : IH} {τ : TH} {ρ : Nat → Nat} {E : Ent} {a : Act} {w : World} (h : St E s.objs s.toks s.nt I τ ρ w)
    (h2 : ∀ t, RepA I τ ρ s.objs.length (getE s.env t) (a.tmps.getD t undef)) : ∀ (l : List ResultVar) (vs : List AV), resList TT s l = some vs →
    ∃ xs : List Value, (l.mapM (m := Sem) fun
      | .tmp t => pure (a.tmps.getD t undef)
      | .cell t T => do loadVar T (← asAddr (a.tmps.getD t undef))).run P w = .ok xs w ∧ vs.length = xs.length ∧ ∀ (i : Nat) v x, vs[i]? = some v → xs[i]? = some x → RepA I τ ρ s.objs.length v x := by
  intro l
  induction l with
  | nil => intro vs hv; simp only [resList, Option.some.injEq] at hv; subst hv; exact ⟨[], by simp, rfl, by simp⟩
  | cons r l ih =>
    intro vs hv
    cases r with
    | tmp t =>
      simp only [resList] at hv
      cases hl : resList TT s l with
      | none => simp [hl] at hv
      | some vs' =>
        simp only [hl, Option.some.injEq] at hv
        subst hv
        obtain ⟨xs, h3, h4, h5⟩ := ih vs' hl
        refine ⟨a.tmps.getD t undef :: xs, ?_, by simp [h4], fun i v x hv hx => ?_⟩
        · simp only [List.mapM_cons, Sem.run_bind, Sem.run_pure, Result.andThen_ok, h3]
        · cases i with
          | zero => simp at hv hx; subst hv; subst hx; have := h2 t; simpa using this
          | succ i => exact h5 i v x (by simpa using hv) (by simpa using hx)
    | cell t T =>
      simp only [resList] at hv
      split at hv
      · rename_i o off vs' hp hl
        split at hv
        · rename_i cs ho
          split at hv
          · rename_i hc
            obtain ⟨c1, c2, c3⟩ := hc
            simp only [Option.some.injEq] at hv
            subst hv
            obtain ⟨xs, h3, h4, h5⟩ := ih vs' hl
            have hpt := h2 t
            rw [hp] at hpt
            have hpv := (rep_ptr hpt).1
            obtain ⟨ws, T', hb, hr⟩ := h.obj o _ ho
            have hr' := (hr.drop off).take (TT.T T).size
            have hlen : ((ws.drop off).take (TT.T T).size).length = (TT.T T).size := by have := hr.1; simp; omega
            have hload := run_loadVar_of (P := P) w (TT.ok T) c1 ⟨ρ o, off, none⟩ rfl _ hlen c3 (fun j v hv => by
              rw [List.getElem?_take] at hv
              split at hv
              · rw [List.getElem?_drop] at hv
                simpa [World.cell?, hb] using hv
              · cases hv)
            refine ⟨mkC (TT.T T) ((ws.drop off).take (TT.T T).size) :: xs, ?_, by simp [h4], fun i v x hv hx => ?_⟩
            · have hadr : asAddr (a.tmps.getD t undef) = pure ⟨ρ o, off, none⟩ := by rw [hpv]; rfl
              simp only [List.mapM_cons, Sem.run_bind, hadr, Sem.run_pure, Result.andThen_ok, hload, h3]
            · cases i with
              | zero => simp at hv hx; subst hv; subst hx; exact mkV_rep hr' (fun ha => by rw [hr'.1, hlen]; exact c3 ha)
              | succ i => exact h5 i v x (by simpa using hv) (by simpa using hx)
          · cases hv
        · cases hv
      · cases hv

/-- What stands at the end of a body. -/
def RetQ {P : Program} (TT : Tab P) (res : List ResultVar) (k nt0 : Nat) (R : Nat → AV → List AO → List Nat → Nat → Prop) : Exit → AS → Prop
  | .normal, s | .ret, s => ∃ vs m toks, resList TT s res = some vs ∧ k ≤ m ∧ (∀ t ∈ toks, t ∈ s.toks) ∧ (resV vs).scop (s.objs.take m).length = true ∧ R nt0 (resV vs) (s.objs.take m) toks s.nt
  | _, _ => False

def env0 : Nat → List AV → List (Nat × AV)
  | _, [] => []
  | i, v :: vs => (i, v) :: env0 (i + 1) vs

theorem env0_get : ∀ (vs : List AV) (i t : Nat), getE (env0 i vs) t = if t < i then .unk else (vs[t - i]?).getD .unk
  | [], i, t => by simp [env0, getE]
  | v :: vs, i, t => by
    simp only [env0, getE]
    split
    · rename_i h; subst h; simp
    · rename_i h
      rw [env0_get vs (i + 1) t]
      by_cases h1 : t < i
      · rw [if_pos (by omega), if_pos h1]
      · rw [if_neg (by omega), if_neg h1]
        obtain ⟨j, hj⟩ : ∃ j, t - i = j + 1 := ⟨t - i - 1, by omega⟩
        rw [hj, show t - (i + 1) = j from by omega]
        simp

theorem ac_of_body {P : Program} (TT : Tab P) {g : FuncId} {fn : Func} {c : Code} {args : List AV} {objs : List AO} {R : Nat → AV → List AO → List Nat → Nat → Prop}
    (hcall : CallOK P g) (hf : P.funcs[g]? = some fn) (hb : fn.body = some c) (hn : args.length ≤ fn.ntmps) (hok : codeOK fn.ntmps c = true)
    (h : ∀ E : Ent, E.k = objs.length → AWp P E c (RetQ TT fn.results.toList objs.length E.nt0 R) ⟨env0 0 args, objs, [], E.nt0⟩) : AC P g args objs R := by
  refine ⟨hcall, fun E0 vs hk hS hA => ?_⟩
  let E : Ent := { E0 with n := fn.ntmps }
  have hS' : St E objs [] E.nt0 E.I0 E.τ0 E.ρ0 E.w0 := ⟨hS.iok, hS.obj, hS.objI, hS.inj, hS.tok, hS.tokd, hS.os, hS.tape, hS.output, hS.size, hS.blk, hS.ifr, hS.ifl, hS.rho, hS.fresh, hS.tau, hS.len, hS.ntle, hS.i0, hS.tn⟩
  have hvl : vs.length = args.length := hA.1.symm
  refine calls_of_wp hf hb ?_
  refine Go.wp_mono (h E hk hok _ E0.w0 ⟨⟨E.I0, E.τ0, E.ρ0, hS', fun t => ?_⟩, ?_, rfl⟩) fun e a' w' ⟨s', hq, hs'⟩ => ?_
  · rw [env0_get]
    simp only [Nat.not_lt_zero, if_false, Nat.sub_zero]
    cases ha : args[t]? with
    | none => exact .unk _
    | some v =>
      have hlt := (List.getElem?_eq_some_iff.1 ha).1
      have hx : vs[t]? = some (vs[t]'(by omega)) := List.getElem?_eq_getElem _
      have := hA.2 t v _ ha hx
      simp only [Option.getD_some]
      have e : (vs.toArray ++ Array.replicate (fn.ntmps - vs.toArray.size) undef).getD t undef = vs[t]'(by omega) := by
        simp only [Array.getD_eq_getD_getElem?]
        rw [Array.getElem?_append_left (by simp; omega)]
        simp [hx]
      rw [e]
      exact this
  · simp only [Array.size_append, List.size_toArray, Array.size_replicate]
    show vs.length + (fn.ntmps - vs.length) = fn.ntmps
    omega
  · have fin : ∀ e, (e = Exit.normal ∨ e = Exit.ret) → RetQ TT fn.results.toList objs.length E.nt0 R e s' → bodyPost P fn (fun e w' => ∃ x, e = .returned x ∧ ∃ r objs' toks' nt' I' τ' ρ', R E0.nt0 r objs' toks' nt' ∧ St E0 objs' toks' nt' I' τ' ρ' w' ∧ RepA I' τ' ρ' objs'.length r x) e a' w' := by
      intro e he hq
      have hq' : ∃ vs m toks, resList TT s' fn.results.toList = some vs ∧ objs.length ≤ m ∧ (∀ t ∈ toks, t ∈ s'.toks) ∧ (resV vs).scop (s'.objs.take m).length = true ∧ R E.nt0 (resV vs) (s'.objs.take m) toks s'.nt := by
        rcases he with rfl | rfl <;> exact hq
      obtain ⟨us, m, toks, q1, q2, q3, q4, q5⟩ := hq'
      obtain ⟨I, τ, ρ, h1, h2⟩ := hs'.ex
      obtain ⟨xs, r1, r2, r3⟩ := run_results TT h1 h2 fn.results.toList us q1
      have hres : (results fn a'.tmps).run P w' = .ok (if hh : xs.toArray.size = 1 then xs.toArray[0] else .tuple xs.toArray) w' := by
        unfold results
        rw [Sem.run_bind, Array.mapM_eq_mapM_toList, Sem.run_map]
        exact congrArg (fun (r : Result (List Value)) => ((r.andThen fun a w' => Result.ok a.toArray w').andThen fun a w' => Sem.run P (pure (if h : a.size = 1 then a[0] else Value.tuple a)) w')) r1
      have hval : RepA I τ ρ s'.objs.length (resV us) (if hh : xs.toArray.size = 1 then xs.toArray[0] else .tuple xs.toArray) := by
        split
        · rename_i hh
          simp only [List.size_toArray] at hh
          obtain ⟨x, rfl⟩ := List.length_eq_one_iff.1 hh
          rw [hh] at r2
          obtain ⟨u, rfl⟩ := List.length_eq_one_iff.1 r2
          exact r3 0 u x rfl rfl
        · rename_i hh
          simp only [List.size_toArray] at hh
          have : resV us = .tup us := by
            match us, r2 with
            | [], _ => rfl
            | [u], r2 => simp at r2; exact absurd r2.symm hh
            | _ :: _ :: _, _ => rfl
          rw [this]
          exact .tup us xs r2 r3
      have hk' : E.k ≤ m := by show E0.k ≤ m; omega
      have hS2 := (h1.trim m hk').sub toks q3
      have hS3 : St E0 (s'.objs.take m) toks s'.nt I τ ρ w' := ⟨hS2.iok, hS2.obj, hS2.objI, hS2.inj, hS2.tok, hS2.tokd, hS2.os, hS2.tape, hS2.output, hS2.size, hS2.blk, hS2.ifr, hS2.ifl, hS2.rho, hS2.fresh, hS2.tau, hS2.len, hS2.ntle, hS2.i0, hS2.tn⟩
      have : bodyPost P fn (fun e w' => ∃ x, e = .returned x ∧ ∃ r objs' toks' nt' I' τ' ρ', R E0.nt0 r objs' toks' nt' ∧ St E0 objs' toks' nt' I' τ' ρ' w' ∧ RepA I' τ' ρ' objs'.length r x) .ret a' w' :=
        ⟨hs'.df, _, hres, _, rfl, _, _, _, _, I, τ, ρ, q5, hS3, hval.scop q4⟩
      rcases he with rfl | rfl <;> exact this
    cases e with
    | normal => exact fin .normal (.inl rfl) hq
    | ret => exact fin .ret (.inr rfl) hq
    | _ => exact hq.elim

end Go.AL

namespace Go.AL
open Go
set_option linter.unusedSectionVars false
variable [Inhabited Glob]
set_option linter.unusedSimpArgs false

section
variable {P : Program} (TT : Tab P) (E : Ent) {all : List (Option Nat)} {s : AS} {K : AS → Prop} {dst : Option Nat} {rest : List Oper} {g : FuncId} {args : List AV}

/-- A function that only computes. -/
def Gives (P : Program) (g : FuncId) (args : List AV) (r : AV) : Prop := AC P g args [] fun _ v o t _ => v = r ∧ o = [] ∧ t = []
/-- A function whose result is told by a relation, and that leaves nothing else behind. -/
def GivesR (P : Program) (g : FuncId) (args : List AV) (R : AV → Prop) : Prop := AC P g args [] fun _ v o t _ => R v ∧ o = [] ∧ t = []

theorem callK_ac {lent : List AO} {args' : List AV} {R : Nat → AV → List AO → List Nat → Nat → Prop} (is : List Nat) (hac : AC P g args' lent R)
    (ha : args'.map (AV.rn is s.objs.length) = args) (hsc : (args'.all fun v => v.scopedT is.length) = true) (hlent : lent.map some = is.map fun i => s.objs[i]?) (hnd : is.Nodup)
    (hK : ∀ r os ts m, R s.nt r os ts m → rvc TT E all rest (({ s with objs := putObjs s.objs is os, toks := ts ++ s.toks, nt := m } : AS).put dst (r.rn is s.objs.length)) K) : callK TT E all g args dst rest s K :=
  callV_ac is lent hac hlent hnd (fun _ _ _ _ _ h => h.unrn hsc ha) hK

theorem rn_nil {len : Nat} {v : AV} (h : v.scopedT 0 = true) : v.rn [] len = v := by
  cases v with
  | ptr o off => simp [AV.scopedT] at h
  | arr o m sz => simp [AV.scopedT] at h
  | map o => simp [AV.scopedT] at h
  | fn f caps =>
    simp only [AV.scopedT, List.all_eq_true] at h
    cases caps with
    | nil => rfl
    | cons o caps => have := h o (by simp); simp at this
  | tup vs => simp [AV.scopedT] at h
  | _ => rfl

/-- A result without names of variables. -/
def AV.plain : AV → Bool
  | .d _ => true
  | .agg _ => true
  | .nilI => true
  | .errI => true
  | .unk => true
  | .nofn => true
  | .tup vs => vs.all fun v => match v with
    | .d _ => true
    | .agg _ => true
    | .nilI => true
    | .errI => true
    | .unk => true
    | _ => false
  | _ => false

theorem rn_plain {is : List Nat} {len : Nat} {v : AV} (h : v.plain = true) : v.rn is len = v := by
  cases v with
  | tup vs =>
    simp only [AV.plain, List.all_eq_true] at h
    simp only [AV.rn, rnL_eq, AV.tup.injEq]
    conv => rhs; rw [← List.map_id vs]
    refine List.map_congr_left fun v hv => ?_
    have := h v hv
    cases v <;> first | rfl | simp at this
  | d c => rfl
  | agg cs => rfl
  | nilI => rfl
  | errI => rfl
  | unk => rfl
  | nofn => rfl
  | _ => simp [AV.plain] at h

theorem callK_pureR {args : List AV} {R : AV → Prop} (hac : GivesR P g args R) (hsc : (args.all fun v => v.scopedT 0) = true)
    (hK : ∀ r m, R r → s.nt ≤ m → rvc TT E all rest (({ s with nt := m } : AS).put dst (r.rn [] s.objs.length)) K) : callK TT E all g args dst rest s K := by
  have hac' : AC P g args [] fun n v o t m => (R v ∧ o = [] ∧ t = []) ∧ n ≤ m :=
    ⟨hac.call, fun E vs h1 h2 h3 => (hac.run E vs h1 h2 h3).mono fun _ _ ⟨x, he, r, o, t, m, I, τ, ρ, hR, hS, hA⟩ => ⟨x, he, r, o, t, m, I, τ, ρ, ⟨hR, hS.ntle⟩, hS, hA⟩⟩
  refine callK_ac TT E [] hac' ?_ hsc rfl List.nodup_nil ?_
  · conv => rhs; rw [← List.map_id args]
    refine List.map_congr_left fun v hv => rn_nil ?_
    rw [List.all_eq_true] at hsc
    exact hsc v hv
  · rintro r os ts m ⟨⟨hr, rfl, rfl⟩, hm⟩
    have := hK r m hr hm
    simpa [putObjs] using this

theorem callK_pure {args : List AV} {r : AV} (hac : Gives P g args r) (hsc : (args.all fun v => v.scopedT 0) = true) (hr : r.plain = true)
    (hK : ∀ m, s.nt ≤ m → rvc TT E all rest (({ s with nt := m } : AS).put dst r) K) : callK TT E all g args dst rest s K := by
  refine callK_pureR TT E (R := fun v => v = r) hac hsc ?_
  rintro _ m rfl hm
  rw [rn_plain hr]
  exact hK m hm

/-! ### The end of a function -/

theorem ret_R {res : List ResultVar} {k nt0 m : Nat} {vs : List AV} {toks : List Nat} {R : Nat → AV → List AO → List Nat → Nat → Prop} (h : resList TT s res = some vs) (hm : k ≤ m) (ht : ∀ t ∈ toks, t ∈ s.toks)
    (hsc : (resV vs).scop (s.objs.take m).length = true) (hR : R nt0 (resV vs) (s.objs.take m) toks s.nt) : RetQ TT res k nt0 R .ret s := ⟨vs, m, toks, h, hm, ht, hsc, hR⟩

theorem ret_Rn {res : List ResultVar} {k nt0 m : Nat} {vs : List AV} {toks : List Nat} {R : Nat → AV → List AO → List Nat → Nat → Prop} (h : resList TT s res = some vs) (hm : k ≤ m) (ht : ∀ t ∈ toks, t ∈ s.toks)
    (hsc : (resV vs).scop (s.objs.take m).length = true) (hR : R nt0 (resV vs) (s.objs.take m) toks s.nt) : RetQ TT res k nt0 R .normal s := ⟨vs, m, toks, h, hm, ht, hsc, hR⟩

theorem guard_split_t {op : Op} {b : Bool} (h1 : b = true → stepK TT E all (stp TT s op) dst rest s K) (h2 : b = false → rvc TT E all rest (s.put dst (.tup [])) K) : guardK TT E all (.d (.bool b)) true op dst rest s K := ⟨h1, h2⟩
theorem guard_split_f {op : Op} {b : Bool} (h1 : b = false → stepK TT E all (stp TT s op) dst rest s K) (h2 : b = true → rvc TT E all rest (s.put dst (.tup [])) K) : guardK TT E all (.d (.bool b)) false op dst rest s K := ⟨h1, h2⟩

theorem plain_scoped {v : AV} {m : Nat} (h : v.plain = true) : v.scop m = true := by
  cases v with
  | tup vs =>
    simp only [AV.plain, List.all_eq_true] at h
    simp only [AV.scop, List.all_eq_true]
    intro v hv
    have := h v hv
    cases v <;> first | rfl | (simp at this; done)
  | _ => first | rfl | simp [AV.plain] at h

theorem ret_gives {res : List ResultVar} {nt0 : Nat} {vs : List AV} {r : AV} (h : resList TT s res = some vs) (hp : (resV vs).plain = true) (hr : resV vs = r) :
    RetQ TT res ([] : List AO).length nt0 (fun _ v o t _ => v = r ∧ o = [] ∧ t = []) .ret s :=
  ret_R TT (m := 0) (toks := []) h (Nat.zero_le _) (by simp) (plain_scoped hp) ⟨hr, by simp, rfl⟩

end

/-! ### Loops by families of states -/

def subE (env : List (Nat × AV)) (n : Nat) : List (Nat × AV) → Prop
  | [] => True
  | p :: l => (getE env p.1 = p.2 ∧ p.2.scop n = true) ∧ subE env n l

/-- The state s' says less than s. -/
def ASub (E : Ent) (s s' : AS) : Prop :=
  E.k ≤ s'.objs.length ∧ s'.objs = s.objs.take s'.objs.length ∧ s'.nt = s.nt ∧ (∀ t ∈ s'.toks, t ∈ s.toks) ∧ subE s.env s'.objs.length s'.env

theorem subE_mem {env : List (Nat × AV)} {n : Nat} : ∀ {l : List (Nat × AV)}, subE env n l → ∀ p ∈ l, getE env p.1 = p.2 ∧ p.2.scop n = true
  | [], _, p, hp => by simp at hp
  | q :: l, h, p, hp => by
    rcases List.mem_cons.1 hp with rfl | hp
    · exact h.1
    · exact subE_mem h.2 p hp

theorem ASub.sim {E : Ent} {s s' : AS} (h : ASub E s s') {a : Act} {w : World} (hs : Sim E s a w) : Sim E s' a w := by
  obtain ⟨h1, h2, h3, h4, h5⟩ := h
  have hl : (s.objs.take s'.objs.length).length = s'.objs.length := by rw [← h2]
  refine sim_sub s'.objs.length h1 h2 h3 h4 (fun p hp => .inr ?_) hs
  rw [hl]
  exact subE_mem h5 p hp

theorem wrap_succ {k n : Nat} (h : k < n) (hn : n ≤ 9223372036854775807) : IntKind.i64.wrap ((k : Int) + 1) = ((k + 1 : Nat) : Int) := by
  rw [IntWalk.i64_in _ (by omega)]; rfl

theorem wrap_id {n : Int} (h : -9223372036854775808 ≤ n ∧ n ≤ 9223372036854775807) : IntKind.i64.wrap n = n := IntWalk.i64_in _ (by omega)

theorem getE_cons (t u : Nat) (v : AV) (l : List (Nat × AV)) : getE ((t, v) :: l) u = if u = t then v else getE l u := rfl
theorem getE_nil (u : Nat) : getE [] u = .unk := rfl

attribute [go_sem] rvc_nil rvc_plain rvc_guard guardG_some guardK_un guardK_tt guardK_tf guardK_ft guardK_ff stepK_ok stepK_call stepK_stop
attribute [go_sem] stp ev cv AS.put env0 getE_cons getE_nil pickR allocR boxR buildR bsliceR loadR storeR nilR binR errR unR convR capsOf funcR makeR sliceR faddrR fieldR iaddrR indexR lookR mupdR extrR lenR appR mmR callR callS
attribute [go_sem] binI binSh binS cmpD cmpL AV.cells mkV Ty.agg Ty.known Ty.isSl placeS placeE partsV fillL chunk zeros bnd foldI capsV AV.er DV.er erL erLL byteI bytesI keyB findE keyDesc
attribute [go_sem] subE AV.scop resList resV AV.rn rnL rnO putObjs
attribute [go_sem] List.map_cons List.map_nil List.getElem?_cons_succ List.getElem?_cons_zero List.drop_succ_cons List.drop_zero List.take_succ_cons List.take_zero List.cons_append List.nil_append List.append_nil List.length_cons List.length_nil
attribute [go_sem] List.set_cons_zero List.set_cons_succ true_and and_true forall_const Option.map_some Option.map_none Option.getD_some Option.getD_none Option.isSome_some Option.isSome_none
attribute [go_sem] List.all_cons List.all_nil Bool.and_true Bool.true_and Bool.not_true Bool.not_false

end Go.AL

namespace Go.AL
open Go
set_option linter.unusedSectionVars false
variable [Inhabited Glob]
set_option linter.unusedSimpArgs false
set_option linter.unusedVariables false

/-! ### Regions that draw their order -/

/-- 0: only computes · 1: reads variables · 2: a new variable · 3: a call, or an append · 4: all else -/
def opCls : Op → Nat
  | .move _ => 0
  | .assign _ => 0
  | .pick _ _ _ => 0
  | .build _ _ => 0
  | .buildSlice _ _ _ => 0
  | .nilCheck _ => 0
  | .binOp _ _ _ _ _ => 0
  | .unOp _ _ _ => 0
  | .convert _ _ _ => 0
  | .makeFunc _ _ _ => 0
  | .slice _ _ _ _ _ => 0
  | .fieldAddr _ _ _ => 0
  | .field _ _ _ => 0
  | .indexAddr _ _ _ => 0
  | .index _ _ _ => 0
  | .extract _ _ => 0
  | .load _ _ => 1
  | .lookup _ _ _ _ => 1
  | .alloc _ => 2
  | .store _ _ _ => 5
  | .call ⟨.value _, _, _⟩ => 3
  | .call ⟨.builtin .append, _, _⟩ => 3
  | .call ⟨.builtin .len, _, _⟩ => 0
  | .call ⟨.builtin .min, _, _⟩ => 0
  | .call ⟨.builtin .max, _, _⟩ => 0
  | _ => 4

def SR.setS (s' : AS) : SR → SR
  | .ok p f v _ => .ok p f v s'
  | .call g args => .call g args
  | .stop => .stop

def SR.setE (e : List (Nat × AV)) : SR → SR
  | .ok p f v s => .ok p f v { s with env := e }
  | .call g args => .call g args
  | .stop => .stop

def agr (s s' : AS) (op : Op) : Prop := ∀ x ∈ op.operands.toList, ev s' x = ev s x

def rdV : AV → Option Nat
  | .ptr o _ => some o
  | .map o => some o
  | _ => none

def rdO (s : AS) : Op → Option Nat
  | .load _ x => rdV (ev s x)
  | .lookup _ x _ _ => rdV (ev s x)
  | _ => none

section
variable {P : Program} (TT : Tab P)

theorem partsV_congr {s s' : AS} {parts : Array (Nat × Operand)} (h : ∀ x ∈ (parts.toList.map (·.2)), ev s' x = ev s x) : partsV s' parts = partsV s parts := by
  unfold partsV
  refine List.map_congr_left fun p hp => ?_
  rw [h p.2 (List.mem_map.2 ⟨p, hp, rfl⟩)]

theorem bnd_congr {s s' : AS} {x : Option Operand} (h : ∀ y ∈ x, ev s' y = ev s y) : bnd s' x = bnd s x := by
  cases x with
  | none => rfl
  | some x => funext d; simp only [bnd, h x rfl]

theorem map_congr_ev {s s' : AS} {l : List Operand} (h : ∀ x ∈ l, ev s' x = ev s x) : l.map (ev s') = l.map (ev s) := List.map_congr_left h

theorem stp_q {op : Op} (hc : opCls op ≤ 1) (s s' : AS) (ha : agr s s' op) (hr : ∀ o, rdO s op = some o → s'.objs[o]? = s.objs[o]?) : stp TT s' op = (stp TT s op).setS s' := by
  unfold agr at ha
  cases op with
  | move x => simp only [stp, ha x (by simp [Op.operands]), SR.setS]
  | assign x => simp only [stp, ha x (by simp [Op.operands]), SR.setS]
  | pick c x y =>
    simp only [stp, ha x (by simp [Op.operands]), ha y (by simp [Op.operands]), ha c (by simp [Op.operands])]
    unfold pickR; split <;> rfl
  | build T ps =>
    simp only [stp, partsV_congr (s := s) (s' := s') (parts := ps) (by simpa [Op.operands] using ha)]
    unfold buildR; (repeat' split) <;> rfl
  | buildSlice T n ps =>
    simp only [stp, partsV_congr (s := s) (s' := s') (parts := ps) (by simpa [Op.operands] using ha)]
    unfold bsliceR; (repeat' split) <;> rfl
  | nilCheck x =>
    simp only [stp, ha x (by simp [Op.operands])]
    unfold nilR; split <;> rfl
  | binOp op T x y U =>
    simp only [stp]
    have h1 := ha x (by simp [Op.operands])
    have h2 := ha y (by simp [Op.operands])
    split
    · rw [h1]; unfold errR; split <;> rfl
    · rw [h1, h2]; unfold binR; (repeat' split) <;> rfl
  | unOp op T x =>
    simp only [stp, ha x (by simp [Op.operands])]
    unfold unR; split <;> rfl
  | convert T U x =>
    simp only [stp, ha x (by simp [Op.operands])]
    unfold convR; (repeat' split) <;> rfl
  | makeFunc fn first caps =>
    simp only [stp, map_congr_ev (s := s) (s' := s') (l := caps.toList) (fun x hx => ha x (by simp [Op.operands]; exact .inr (by simpa using hx)))]
    unfold funcR; (repeat' split) <;> rfl
  | slice T x lo hi mx =>
    cases mx with
    | some m => rfl
    | none =>
      have h1 := ha x (by simp [Op.operands])
      have h2 : bnd s' lo = bnd s lo := bnd_congr fun y hy => ha y (by simp only [Op.operands]; simp; right; left; simpa using hy)
      have h3 : bnd s' hi = bnd s hi := bnd_congr fun y hy => ha y (by simp only [Op.operands]; simp; right; right; simpa using hy)
      simp only [stp, h1, h2, h3]
      unfold sliceR; (repeat' split) <;> rfl
  | fieldAddr T x f =>
    simp only [stp, ha x (by simp [Op.operands])]
    unfold faddrR; (repeat' split) <;> rfl
  | field T x f =>
    simp only [stp, ha x (by simp [Op.operands])]
    unfold fieldR; (repeat' split) <;> rfl
  | indexAddr T x i =>
    simp only [stp, ha x (by simp [Op.operands]), ha i (by simp [Op.operands])]
    unfold iaddrR; (repeat' split) <;> rfl
  | index T x i =>
    simp only [stp, ha x (by simp [Op.operands]), ha i (by simp [Op.operands])]
    unfold indexR; (repeat' split) <;> rfl
  | extract x i =>
    simp only [stp, ha x (by simp [Op.operands])]
    unfold extrR; (repeat' split) <;> rfl
  | load T x =>
    simp only [stp, ha x (by simp [Op.operands])]
    simp only [rdO] at hr
    generalize ev s x = v at *
    unfold loadR
    cases v with
    | ptr o off => simp only [hr o rfl]; split <;> rfl
    | _ => rfl
  | lookup T x i ok =>
    simp only [stp, ha x (by simp [Op.operands]), ha i (by simp [Op.operands])]
    simp only [rdO] at hr
    generalize ev s x = v at *
    generalize ev s i = k at *
    unfold lookR
    generalize (TT.T T).t = ty
    cases ty with
    | map kt et => cases v with
      | map o => cases k with
        | d key => dsimp only; rw [hr o rfl]; (repeat' split) <;> rfl
        | _ => rfl
      | _ => rfl
    | _ => rfl
  | call c =>
    obtain ⟨f, args, tys⟩ := c
    cases f with
    | value f => simp [opCls] at hc
    | invoke r m => simp [opCls] at hc
    | builtin b =>
      have hm : args.toList.map (ev s') = args.toList.map (ev s) := map_congr_ev fun x hx => ha x (by simpa [Op.operands, Call.operands] using hx)
      cases b <;> first | (simp [opCls] at hc; done) | skip
      · simp only [stp, callS]
        generalize tys.toList = tl
        cases hargs : args.toList with
        | nil => rfl
        | cons x l =>
          cases l with
          | cons y l => rfl
          | nil =>
            rw [hargs] at hm
            have hx : ev s' x = ev s x := by simpa using hm
            cases tl with
            | nil => rfl
            | cons T tl => cases tl with
              | cons U tl => rfl
              | nil =>
                dsimp only
                rw [hx]
                unfold lenR; split <;> rfl
      all_goals
        simp only [stp, callS, hm]
        unfold mmR
        (repeat' split) <;> rfl
  | _ => simp [opCls] at hc

theorem stp_env (op : Op) (s : AS) (e : List (Nat × AV)) (ha : agr s { s with env := e } op) : stp TT { s with env := e } op = (stp TT s op).setE e := by
  by_cases hc : opCls op ≤ 1
  · rw [stp_q TT hc s _ ha (fun _ _ => rfl)]
    have h1 : stp TT s op = (stp TT s op).setS s := stp_q TT hc s s (fun _ _ => rfl) (fun _ _ => rfl)
    rw [h1]
    cases stp TT s op <;> rfl
  unfold agr at ha
  cases op with
  | alloc T => simp only [stp]; unfold allocR; split <;> rfl
  | box T x =>
    simp only [stp, ha x (by simp [Op.operands])]
    unfold boxR; split <;> rfl
  | store T x y =>
    simp only [stp, ha x (by simp [Op.operands]), ha y (by simp [Op.operands])]
    unfold storeR; dsimp only; (repeat' split) <;> rfl
  | makeMap T r =>
    cases r <;> rfl
  | makeSlice T x y =>
    simp only [stp, ha x (by simp [Op.operands]), ha y (by simp [Op.operands])]
    unfold makeR; (repeat' split) <;> rfl
  | mapUpdate T x k v =>
    simp only [stp, ha x (by simp [Op.operands]), ha k (by simp [Op.operands]), ha v (by simp [Op.operands])]
    unfold mupdR; dsimp only; (repeat' split) <;> rfl
  | call c =>
    obtain ⟨f, args, tys⟩ := c
    cases f with
    | value f =>
      have hm : args.toList.map (ev { s with env := e }) = args.toList.map (ev s) := map_congr_ev fun x hx => ha x (by simp [Op.operands, Call.operands]; exact .inr (by simpa using hx))
      have hf := ha f (by simp [Op.operands, Call.operands])
      simp only [stp, callS, hm, hf]
      unfold callR; split <;> rfl
    | invoke r m => rfl
    | builtin b =>
      have hm : args.toList.map (ev { s with env := e }) = args.toList.map (ev s) := map_congr_ev fun x hx => ha x (by simpa [Op.operands, Call.operands] using hx)
      cases b <;> first | (simp [opCls] at hc; done) | rfl | skip
      simp only [stp, callS]
      generalize tys.toList = tl
      cases hargs : args.toList with
      | nil => rfl
      | cons x l =>
        cases l with
        | nil => rfl
        | cons y l =>
          cases l with
          | cons z l => rfl
          | nil =>
            rw [hargs] at hm
            have hx : ev { s with env := e } x = ev s x ∧ ev { s with env := e } y = ev s y := by simpa using hm
            cases tl with
            | nil => rfl
            | cons T tl => cases tl with
              | nil => rfl
              | cons U tl => cases tl with
                | cons _ _ => rfl
                | nil =>
                  dsimp only
                  rw [hx.1, hx.2]
                  split
                  · unfold appR; dsimp only; (repeat' split) <;> rfl
                  · rfl
  | _ => first | rfl | (simp [opCls] at hc; done)

end

/-! ### Calls, apart from the frame -/

theorem putObjs_len (is : List Nat) (objs os : List AO) (h : os.length = is.length) : (putObjs objs is os).length = objs.length := by
  rw [putObjs_length is objs os (Nat.le_of_eq h.symm)]; omega

theorem putObjs_out : ∀ (is : List Nat) (objs os : List AO), os.length = is.length → ∀ j, j ∉ is → (putObjs objs is os)[j]? = objs[j]?
  | [], objs, os, h, j, _ => by
    have : os = [] := List.eq_nil_of_length_eq_zero (by simpa using h)
    subst this; simp [putObjs]
  | i :: is, objs, [], h, _, _ => by simp at h
  | i :: is, objs, o :: os, h, j, hj => by
    simp only [putObjs]
    simp only [List.mem_cons, not_or] at hj
    rw [putObjs_out is _ os (by simpa using h) j hj.2, List.getElem?_set_ne (fun e => hj.1 e.symm)]

theorem putObjs_push (z : AO) : ∀ (is : List Nat) (objs os : List AO), os.length = is.length → (∀ i ∈ is, i < objs.length) → putObjs (objs ++ [z]) is os = putObjs objs is os ++ [z]
  | [], objs, os, h, _ => by
    have : os = [] := List.eq_nil_of_length_eq_zero (by simpa using h)
    subst this; simp [putObjs]
  | i :: is, objs, [], h, _ => by simp at h
  | i :: is, objs, o :: os, h, hi => by
    simp only [putObjs]
    rw [List.set_append_left (h := hi i (List.mem_cons_self ..)), putObjs_push z is _ os (by simpa using h) (fun k hk => by simpa using hi k (List.mem_cons_of_mem _ hk))]

def CallD (P : Program) (T : List Nat) (objs : List AO) (toks : List Nat) (nt : Nat) (g : FuncId) (args : List AV) (K : AV → List AO → List Nat → Nat → Prop) : Prop :=
  ∃ (lent : List AO) (args' : List AV) (is : List Nat) (R : Nat → AV → List AO → List Nat → Nat → Prop), AC P g args' lent R ∧ (∀ len, args'.map (AV.rn is len) = args) ∧ (args'.all fun v => v.scopedT is.length) = true ∧
    lent.map some = is.map (fun i => objs[i]?) ∧ is.Nodup ∧ (∀ i ∈ is, i ∈ T) ∧ (∀ n, ∃ r os ts m, R n r os ts m) ∧
    ∀ r os ts m, R nt r os ts m → os.length = is.length ∧ (∀ len len', r.rn is len = r.rn is len') ∧ K (r.rn is objs.length) (putObjs objs is os) (ts ++ toks) m

section
variable {P : Program} {T : List Nat} {objs : List AO} {toks : List Nat} {nt : Nat} {g : FuncId} {args : List AV} {K K' : AV → List AO → List Nat → Nat → Prop}

theorem lent_lt {lent : List AO} {is : List Nat} (h : lent.map some = is.map (fun i => objs[i]?)) : ∀ i ∈ is, i < objs.length := by
  intro i hi
  have : objs[i]? ∈ is.map (fun i => objs[i]?) := List.mem_map.2 ⟨i, hi, rfl⟩
  rw [← h] at this
  obtain ⟨o, _, ho⟩ := List.mem_map.1 this
  exact (List.getElem?_eq_some_iff.1 ho.symm).1

theorem CallD.mono (h : CallD P T objs toks nt g args K) (hk : ∀ v o t m, o.length = objs.length → (∀ i, i ∉ T → o[i]? = objs[i]?) → K v o t m → K' v o t m) : CallD P T objs toks nt g args K' := by
  obtain ⟨lent, args', is, R, h1, h2, h3, h4, h5, h6, h7, h8⟩ := h
  refine ⟨lent, args', is, R, h1, h2, h3, h4, h5, h6, h7, fun r os ts m hr => ?_⟩
  obtain ⟨k1, k2, k3⟩ := h8 r os ts m hr
  exact ⟨k1, k2, hk _ _ _ _ (putObjs_len _ _ _ k1) (fun i hi => putObjs_out _ _ _ k1 i fun hc => hi (h6 i hc)) k3⟩

theorem CallD.inh (h : CallD P T objs toks nt g args K) : ∃ v o t m, o.length = objs.length ∧ (∀ i, i ∉ T → o[i]? = objs[i]?) ∧ K v o t m := by
  obtain ⟨lent, args', is, R, h1, h2, h3, h4, h5, h6, h7, h8⟩ := h
  obtain ⟨r, os, ts, m, hr⟩ := h7 nt
  obtain ⟨k1, k2, k3⟩ := h8 r os ts m hr
  exact ⟨_, _, _, _, putObjs_len _ _ _ k1, fun i hi => putObjs_out _ _ _ k1 i fun hc => hi (h6 i hc), k3⟩

theorem CallD.unpush {z : AO} (hT : objs.length ∉ T) (h : CallD P T (objs ++ [z]) toks nt g args K) : CallD P T objs toks nt g args fun v o t m => K v (o ++ [z]) t m := by
  obtain ⟨lent, args', is, R, h1, h2, h3, h4, h5, h6, h7, h8⟩ := h
  have hlt : ∀ i ∈ is, i < objs.length := fun i hi => by
    have := lent_lt h4 i hi
    simp only [List.length_append, List.length_singleton] at this
    rcases Nat.lt_or_ge i objs.length with h | h
    · exact h
    · exact absurd (h6 i hi) (by rw [show i = objs.length by omega]; exact hT)
  refine ⟨lent, args', is, R, h1, h2, h3, ?_, h5, h6, h7, fun r os ts m hr => ?_⟩
  · rw [h4]
    exact List.map_congr_left fun i hi => List.getElem?_append_left (hlt i hi)
  · obtain ⟨k1, k2, k3⟩ := h8 r os ts m hr
    refine ⟨k1, k2, ?_⟩
    rw [putObjs_push z is objs os k1 hlt, k2 _ objs.length] at k3
    exact k3

theorem CallD.push {z : AO} (h : CallD P T objs toks nt g args fun v o t m => K v (o ++ [z]) t m) : CallD P T (objs ++ [z]) toks nt g args K := by
  obtain ⟨lent, args', is, R, h1, h2, h3, h4, h5, h6, h7, h8⟩ := h
  have hlt := lent_lt h4
  refine ⟨lent, args', is, R, h1, h2, h3, ?_, h5, h6, h7, fun r os ts m hr => ?_⟩
  · rw [h4]
    exact List.map_congr_left fun i hi => (List.getElem?_append_left (hlt i hi)).symm
  · obtain ⟨k1, k2, k3⟩ := h8 r os ts m hr
    refine ⟨k1, k2, ?_⟩
    rw [putObjs_push z is objs os k1 hlt, k2 _ objs.length]
    exact k3

theorem CallD.callV {E : Ent} {s : AS} {K : AV → List AO → List Nat → Nat → Prop} (h : CallD P T s.objs s.toks s.nt g args K) :
    CallV P E s g args fun v s' => ∃ o t m, s' = { s with objs := o, toks := t, nt := m } ∧ K v o t m := by
  obtain ⟨lent, args', is, R, h1, h2, h3, h4, h5, h6, h7, h8⟩ := h
  refine callV_ac is lent h1 h4 h5 (fun _ _ _ _ _ h => h.unrn h3 (h2 s.objs.length)) (fun r os ts m hr => ?_)
  exact ⟨_, _, _, rfl, (h8 r os ts m hr).2.2⟩

end
end Go.AL
