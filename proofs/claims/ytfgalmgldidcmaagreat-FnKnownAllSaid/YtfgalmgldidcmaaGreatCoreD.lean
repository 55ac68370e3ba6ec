/- The abstract logic, D: loops along lists, made slices, and the road from a contract to a statement. -/
import Derived.Test.YtfgalmgldidcmaaGreatCoreC
set_option linter.unusedVariables false
set_option linter.unusedSimpArgs false
set_option linter.unusedSectionVars false
namespace Go.AL
open Go
set_option linter.unusedSectionVars false
variable [Inhabited Glob]
set_option linter.unusedSimpArgs false
set_option linter.unusedVariables false

/-! ### Loops whose frame is found by program -/

def pickE (env : List (Nat × AV)) : List Nat → List (Nat × AV)
  | [] => []
  | t :: l => (t, getE env t) :: pickE env l

def AO.er : AO → AO
  | .cells cs => .cells (erL cs)
  | .map es => .map es
  | .gone => .gone

/-- Who owns what lies inside is forgotten. -/
def DV.er1 : DV → DV
  | .sl n xs o => .sl n (erLL xs) o
  | c => c
def er1L : List DV → List DV
  | [] => []
  | c :: cs => c.er1 :: er1L cs
def AV.er1 : AV → AV
  | .d c => .d c.er1
  | .agg cs => .agg (er1L cs)
  | v => v
def AO.er1 : AO → AO
  | .cells cs => .cells (er1L cs)
  | o => o
theorem RepD.er1 {I : IH} {τ : TH} {c : DV} {v : Value} (h : RepD I τ c v) : RepD I τ c.er1 v := by
  cases c with
  | sl n xs o => exact (show RepD I τ (.sl n ([] ++ xs) o) v from h).erApp
  | _ => exact h
theorem er1L_eq (l : List DV) : er1L l = l.map DV.er1 := by induction l <;> simp_all [er1L]
theorem RepL.er1 {I : IH} {τ : TH} {cs : List DV} {vs : List Value} (h : RepL I τ cs vs) : RepL I τ (er1L cs) vs := by
  rw [er1L_eq]
  refine ⟨by simpa using h.1, fun i c v hc hv => ?_⟩
  rw [List.getElem?_map, Option.map_eq_some_iff] at hc
  obtain ⟨c', hc', rfl⟩ := hc
  exact (h.2 i c' v hc' hv).er1
theorem RepA.er1 {I : IH} {τ : TH} {ρ : Nat → Nat} {n : Nat} {v : AV} {x : Value} (h : RepA I τ ρ n v x) : RepA I τ ρ n v.er1 x := by
  cases v with
  | d c => cases h with | d _ _ hd => exact .d _ _ hd.er1
  | agg cs => cases h with | agg _ _ hl => exact .agg _ _ hl.er1
  | _ => exact h
theorem erLL_append (a b : List (List DV)) : erLL (a ++ b) = erLL a ++ erLL b := by simp [erLL_eq]

/-- The objects may forget. -/
def subO : List AO → List AO → Prop
  | _, [] => True
  | [], _ :: _ => False
  | o :: l, o' :: l' => (o = o' ∨ o.er = o' ∨ o.er1 = o') ∧ subO l l'

/-- A slice that has nothing, and no room. -/
def emptyA : AV → Bool
  | .d (.sl _ [] .full) => true
  | _ => false
theorem emptyA_nil (k : Nat) : emptyA (.d (.sl k [] .full)) = true := rfl
theorem emptyA_map {α : Type} (f : α → List DV) (k : Nat) : emptyA (.d (.sl k (([] : List α).map f) .full)) = true := rfl
theorem emptyA_spec {v : AV} (h : emptyA v = true) : ∃ k, v = .d (.sl k [] .full) := by
  unfold emptyA at h
  split at h
  · exact ⟨_, rfl⟩
  · cases h
theorem RepA.empty {I : IH} {τ : TH} {ρ : Nat → Nat} {n k k' : Nat} {x : Value} (h : RepA I τ ρ n (.d (.sl k [] .full)) x) : RepA I τ ρ n (.d (.sl k' [] .full)) x := by
  cases h with
  | d _ _ h =>
    cases h with
    | sl _ _ _ a cap vals hsz hcap hmax hnil hadr hI hrep hown =>
      exact .d _ _ (.sl k' [] .full a cap vals (by simp) hcap hmax hnil hadr (by simp) (by simp) hown)
/-- The slots may forget. -/
def subW (env : List (Nat × AV)) (n : Nat) : List (Nat × AV) → Prop
  | [] => True
  | p :: l => ((getE env p.1 = p.2 ∨ (getE env p.1).er = p.2 ∨ (getE env p.1).er1 = p.2 ∨ (emptyA (getE env p.1) = true ∧ emptyA p.2 = true)) ∧ p.2.scop n = true) ∧ subW env n l

def ASubW (E : Ent) (s s' : AS) : Prop :=
  E.k ≤ s'.objs.length ∧ subO s.objs s'.objs ∧ s'.nt = s.nt ∧ (∀ t ∈ s'.toks, t ∈ s.toks) ∧ subW s.env s'.objs.length s'.env

theorem subO_len : ∀ {l l' : List AO}, subO l l' → l'.length ≤ l.length
  | _, [], _ => by simp
  | [], _ :: _, h => h.elim
  | o :: l, o' :: l', h => by have := subO_len h.2; simp; omega

theorem subO_get : ∀ {l l' : List AO}, subO l l' → ∀ (i : Nat) (o' : AO), l'[i]? = some o' → ∃ o, l[i]? = some o ∧ (o = o' ∨ o.er = o' ∨ o.er1 = o')
  | _, [], _, i, o', h => by simp at h
  | [], _ :: _, h, _, _, _ => h.elim
  | o :: l, p :: l', h, i, o', ho => by
    cases i with
    | zero => simp at ho; subst ho; exact ⟨o, rfl, h.1⟩
    | succ i => exact subO_get h.2 i o' (by simpa using ho)

theorem RepO.er {I : IH} {τ : TH} {o : AO} {x : Option Obj} (h : RepO I τ o x) : RepO I τ o.er x := by
  cases o with
  | cells cs => obtain ⟨vs, T, h1, h2⟩ := h; exact ⟨vs, T, h1, h2.er⟩
  | map es => exact h
  | gone => exact h
theorem RepO.er1 {I : IH} {τ : TH} {o : AO} {x : Option Obj} (h : RepO I τ o x) : RepO I τ o.er1 x := by
  cases o with
  | cells cs => obtain ⟨vs, T, h1, h2⟩ := h; exact ⟨vs, T, h1, h2.er1⟩
  | map es => exact h
  | gone => exact h

theorem St.weakO {E : Ent} {objs objs' : List AO} {toks : List Nat} {nt : Nat} {I : IH} {τ : TH} {ρ : Nat → Nat} {w : World} (h : St E objs toks nt I τ ρ w) (ho : subO objs objs') (hk : E.k ≤ objs'.length) : St E objs' toks nt I τ ρ w := by
  have hl := subO_len ho
  refine ⟨h.iok, fun i o hi => ?_, fun i hi => h.objI i (by omega), fun i j hi hj => h.inj i j (by omega) (by omega), fun t ht => ?_, h.tokd, h.os, h.tape, h.output, h.size, h.blk, h.ifr, h.ifl, h.rho, fun i hk hi => h.fresh i hk (by omega), h.tau, hk, h.ntle, h.i0, h.tn⟩
  · obtain ⟨o0, h1, h2⟩ := subO_get ho i o hi
    have := h.obj i o0 h1
    rcases h2 with rfl | rfl | rfl
    · exact this
    · exact this.er
    · exact this.er1
  · obtain ⟨h1, h2⟩ := h.tok t ht
    exact ⟨h1, fun b e r hb => by
      obtain ⟨g1, g2, g3, g4⟩ := h2 b e r hb
      exact ⟨g1, g2, g3, fun i hi => g4 i (by omega)⟩⟩

theorem subW_mem {env : List (Nat × AV)} {n : Nat} : ∀ {l : List (Nat × AV)}, subW env n l → ∀ p ∈ l, (getE env p.1 = p.2 ∨ (getE env p.1).er = p.2 ∨ (getE env p.1).er1 = p.2 ∨ (emptyA (getE env p.1) = true ∧ emptyA p.2 = true)) ∧ p.2.scop n = true
  | [], _, p, hp => by simp at hp
  | q :: l, h, p, hp => by
    rcases List.mem_cons.1 hp with rfl | hp
    · exact h.1
    · exact subW_mem h.2 p hp

theorem ASubW.sim {E : Ent} {s s' : AS} (h : ASubW E s s') {a : Act} {w : World} (hs : Sim E s a w) : Sim E s' a w := by
  obtain ⟨h1, h2, h3, h4, h5⟩ := h
  obtain ⟨⟨I, τ, ρ, g1, g2⟩, g3, g4⟩ := hs
  refine ⟨⟨I, τ, ρ, ?_, fun t => ?_⟩, g3, g4⟩
  · rw [h3]; exact (g1.weakO h2 h1).sub _ h4
  · have key : ∀ (l : List (Nat × AV)), (∀ p ∈ l, (getE s.env p.1 = p.2 ∨ (getE s.env p.1).er = p.2 ∨ (getE s.env p.1).er1 = p.2 ∨ (emptyA (getE s.env p.1) = true ∧ emptyA p.2 = true)) ∧ p.2.scop s'.objs.length = true) → RepA I τ ρ s'.objs.length (getE l t) (a.tmps.getD t undef) := by
      intro l
      induction l with
      | nil => intro _; exact .unk _
      | cons p l ih =>
        intro hl
        simp only [getE]
        split
        · rename_i htp
          obtain ⟨hg, hsc⟩ := hl p (by simp)
          have := g2 t
          rw [htp] at this ⊢
          rcases hg with hg | hg | hg | ⟨hg1, hg2⟩
          · rw [hg] at this; exact this.scop hsc
          · have := this.er; rw [hg] at this; exact this.scop hsc
          · have := this.er1; rw [hg] at this; exact this.scop hsc
          · obtain ⟨k, hk⟩ := emptyA_spec hg1
            obtain ⟨k', hk'⟩ := emptyA_spec hg2
            rw [hk'] at hsc ⊢
            rw [hk] at this
            exact this.empty.scop hsc
        · exact ih fun p hp => hl p (by simp [hp])
    exact key s'.env (subW_mem h5)

section
variable {P : Program} {E : Ent} {Q : Exit → AS → Prop} {s : AS} {c : Code}

theorem awp_lp {ι : Type} (Lv : List Nat) {kept : List (Nat × AV)} {obs : List AO} (up : ι → List (Nat × AV)) (ob : List AO → ι → List AO) (tk : ι → List Nat) (φ : ι → Nat → Prop) (μ : ι → Nat) (i0 : ι) (hkept : pickE s.env Lv = kept) (hobs : s.objs = obs)
    (h0 : φ i0 s.nt) (hs : ASubW E s ⟨up i0 ++ kept, ob obs i0, tk i0, s.nt⟩)
    (round : ∀ i nt, φ i nt → AWp P E c (AThen (fun s' => ∃ i', φ i' s'.nt ∧ μ i' < μ i ∧ ASubW E s' ⟨up i' ++ kept, ob obs i', tk i', s'.nt⟩) Q) ⟨up i ++ kept, ob obs i, tk i, nt⟩) : AWp P E (.loop c) Q s :=
  awp_weak (fun _ _ h => hs.sim h) (awp_loop (fun m s => ∃ i nt, m = μ i ∧ φ i nt ∧ s = ⟨up i ++ kept, ob obs i, tk i, nt⟩) (μ i0) ⟨i0, s.nt, rfl, h0, rfl⟩ (by
    rintro _ _ ⟨i, nt, rfl, hi, rfl⟩
    intro hok a w hsim
    refine Go.wp_mono (round i nt hi hok a w hsim) fun e a' w' ⟨s', hq, hs'⟩ => ⟨s', ?_, hs'⟩
    cases e with
    | normal =>
      obtain ⟨i', h1, h2, h3⟩ := hq
      exact ⟨μ i', _, h2, fun _ _ hx => h3.sim hx, i', _, rfl, h1, rfl⟩
    | _ => exact hq))

/-- Place k of a list. -/
structure At {α : Type} (l : List α) (n k : Nat) (x : α) (rest : List α) : Prop where
  len : l.length = n
  lt : k < n
  dr : l.drop k = x :: rest
  max : n ≤ 9223372036854775807

section
variable {α : Type} {l : List α} {n k : Nat} {x : α} {rest : List α}
theorem At.get (h : At l n k x rest) : l[k]? = some x := by
  have := congrArg (fun q => q[0]?) h.dr
  simpa using this
theorem At.g0 (h : At l n k x rest) (d : α) : l.getD k d = x := by simp [List.getD, h.get]
theorem At.g (h : At l n k x rest) (f : α → List DV) : pickL (l.map f) k = f x := pickL_get (by simp [h.get])
theorem At.le (h : At l n k x rest) : k ≤ l.length := by have := h.len; have := h.lt; omega
theorem At.t0 {m : Nat} (h : At (l.take m) n k x rest) (d : α) : l.getD k d = x := by
  have h1 := h.get
  rw [List.getElem?_take] at h1
  split at h1
  · simp [List.getD, h1]
  · cases h1
theorem At.tg {m : Nat} (h : At (l.take m) n k x rest) (f : α → List DV) : pickL (l.map f) k = f x := by
  have h1 := h.get
  rw [List.getElem?_take] at h1
  split at h1
  · exact pickL_get (by simp [h1])
  · cases h1
theorem At.tlt {m : Nat} (h : At (l.take m) n k x rest) : k < l.length := by have h1 := h.len; have := h.lt; simp at h1; omega
theorem At.d (h : At l n k x rest) : decide ((k : Int) < (n : Int)) = true := by have := h.lt; simp; omega
theorem At.d' (h : At l n k x rest) : decide ((n : Int) ≤ (k : Int)) = false := by have := h.lt; simp; omega
theorem At.w (h : At l n k x rest) : IntKind.i64.wrap ((k : Int) + 1) = ((k + 1 : Nat) : Int) := wrap_succ h.lt h.max
theorem At.next (h : At l n k x rest) : l.drop (k + 1) = rest := by
  have := congrArg (fun q => q.drop 1) h.dr
  simpa [List.drop_drop] using this
theorem At.snoc (h : At l n k x rest) : l.take (k + 1) = l.take k ++ [x] := by
  rw [List.take_add_one, h.get]; rfl
theorem At.mem (h : At l n k x rest) : x ∈ l := List.mem_of_getElem? h.get
theorem At.split (h : At l n k x rest) : l = l.take k ++ x :: rest := by rw [← h.dr, List.take_append_drop]
end

/-- The length of a slice or of a text, at the end of a path: places and cells. -/
def lenD : DV → List (Nat × Nat) → Option Nat
  | .sl _ xs _, [] => some xs.length
  | .str l, [] => some l.length
  | .sl _ xs _, (k, j) :: p => match xs[k]? with
    | some x => match x[j]? with
      | some c => lenD c p
      | none => none
    | none => none
  | _, _ => none
def lenL (cs : List DV) : List (Nat × Nat) → Option Nat
  | [] => none
  | (_, j) :: p => match cs[j]? with
    | some c => lenD c p
    | none => none
def lenO (os : List AO) (o off : Nat) : List (Nat × Nat) → Option Nat
  | [] => none
  | (_, j) :: p => match os[o]? with
    | some (.cells cs) => match cs[off + j]? with
      | some c => lenD c p
      | none => none
    | _ => none
def lenA (os : List AO) : AV → List (Nat × Nat) → Option Nat
  | .d c, p => lenD c p
  | .agg cs, p => lenL cs p
  | .elem cs, p => lenL cs p
  | .ptr o off, p => lenO os o off p
  | _, _ => none

theorem lenD_max {I : IH} {τ : TH} : ∀ (p : List (Nat × Nat)) {c : DV} {x : Value} {n : Nat}, RepD I τ c x → lenD c p = some n → n ≤ 9223372036854775807
  | [], c, x, n, h, hl => by
    cases h with
    | sl sz xs own a cap vals hsz hcap hmax => simp [lenD] at hl; omega
    | str s h => simp [lenD] at hl; omega
    | _ => simp [lenD] at hl
  | (k, j) :: p, c, x, n, h, hl => by
    cases h with
    | sl sz xs own a cap vals hsz hcap hmax hnil hadr hI hrep =>
      simp only [lenD] at hl
      split at hl
      · rename_i hy
        split at hl
        · rename_i hc'
          exact lenD_max p (hrep k _ j _ hy hc') hl
        · cases hl
      · cases hl
    | _ => simp [lenD] at hl

theorem lenL_max {I : IH} {τ : TH} {cs : List DV} {vs : List Value} (h : RepL I τ cs vs) {p : List (Nat × Nat)} {n : Nat} (hl : lenL cs p = some n) : n ≤ 9223372036854775807 := by
  cases p with
  | nil => simp [lenL] at hl
  | cons q p =>
    simp only [lenL] at hl
    split at hl
    · rename_i c hc
      obtain ⟨v, _, h2⟩ := h.get hc
      exact lenD_max p h2 hl
    · cases hl

theorem lenA_max {E : Ent} {s : AS} {a : Act} {w : World} (h : Sim E s a w) {t n : Nat} {p : List (Nat × Nat)} (hl : lenA s.objs (getE s.env t) p = some n) : n ≤ 9223372036854775807 := by
  obtain ⟨I, τ, ρ, h1, h2⟩ := h.ex
  have hv := h2 t
  revert hl
  generalize getE s.env t = v at hv
  generalize a.tmps.getD t undef = x at hv
  intro hl
  cases hv with
  | d c v h => exact lenD_max p h hl
  | agg cs vs h => exact lenL_max h hl
  | elem cs vs adr hs h hI => exact lenL_max h hl
  | ptr o off ho =>
    simp only [lenA] at hl
    cases p with
    | nil => simp [lenO] at hl
    | cons q p =>
      simp only [lenO] at hl
      split at hl
      · rename_i cs hcs
        split at hl
        · rename_i c hc
          have := h1.obj o _ hcs
          obtain ⟨vs, T, _, h4⟩ := this
          obtain ⟨v, _, h5⟩ := h4.get hc
          exact lenD_max p h5 hl
        · cases hl
      · cases hl
  | _ => simp [lenA] at hl

/-- A loop along a list. -/
theorem awp_zipM {α σ : Type} (l : List α) (n : Nat) (Lv : List Nat) {kept : List (Nat × AV)} {obs : List AO} (up : Nat → σ → List (Nat × AV)) (ob : List AO → Nat → σ → List AO) (tk : Nat → σ → List Nat) (ψ : Nat → List α → σ → Nat → Prop) (st0 : σ)
    (hn : l.length = n) (hmax : n ≤ 9223372036854775807) (hkept : pickE s.env Lv = kept) (hobs : s.objs = obs) (h0 : ψ 0 l st0 s.nt) (hs : ASubW E s ⟨up 0 st0 ++ kept, ob obs 0 st0, tk 0 st0, s.nt⟩)
    (stop : ∀ st nt, n ≤ 9223372036854775807 → ψ n [] st nt → AWp P E c (AThen (fun _ => False) Q) ⟨up n st ++ kept, ob obs n st, tk n st, nt⟩)
    (step : ∀ k x rest st nt, At l n k x rest → ψ k (x :: rest) st nt → AWp P E c (AThen (fun s' => ∃ st', ψ (k + 1) rest st' s'.nt ∧ ASubW E s' ⟨up (k + 1) st' ++ kept, ob obs (k + 1) st', tk (k + 1) st', s'.nt⟩) Q) ⟨up k st ++ kept, ob obs k st, tk k st, nt⟩) :
    AWp P E (.loop c) Q s := by
  intro hok a w hsim
  refine awp_lp (ι := Nat × σ) Lv (fun i => up i.1 i.2) (fun o i => ob o i.1 i.2) (fun i => tk i.1 i.2) (fun i nt => i.1 ≤ n ∧ ψ i.1 (l.drop i.1) i.2 nt) (fun i => n - i.1) (0, st0) hkept hobs ⟨Nat.zero_le _, h0⟩ hs ?_ hok a w hsim
  rintro ⟨k, st⟩ nt ⟨hk, hψ⟩
  dsimp only at hk hψ ⊢
  by_cases hlt : k < n
  · obtain ⟨x, rest, hd⟩ : ∃ x rest, l.drop k = x :: rest := by
      cases hd : l.drop k with
      | nil => have := congrArg List.length hd; simp at this; omega
      | cons x rest => exact ⟨x, rest, rfl⟩
    rw [hd] at hψ
    have hA : At l n k x rest := ⟨hn, hlt, hd, hmax⟩
    intro hok a w hsim
    refine Go.wp_mono (step k x rest st nt hA hψ hok a w hsim) fun e a' w' ⟨s', hq, hs'⟩ => ⟨s', ?_, hs'⟩
    cases e with
    | normal =>
      obtain ⟨st', h1, h2⟩ := hq
      exact ⟨(k + 1, st'), ⟨hlt, by dsimp only; rw [hA.next]; exact h1⟩, by dsimp only; omega, h2⟩
    | _ => exact hq
  · have hkn : k = n := by omega
    subst hkn
    rw [List.drop_of_length_le (by omega)] at hψ
    intro hok a w hsim
    refine Go.wp_mono (stop st nt hmax hψ hok a w hsim) fun e a' w' ⟨s', hq, hs'⟩ => ⟨s', ?_, hs'⟩
    cases e with
    | normal => exact hq.elim
    | _ => exact hq


/-- A loop along a list. The slot t holds something of its length. -/
theorem awp_zip {α σ : Type} (l : List α) (n t : Nat) (pt : List (Nat × Nat)) (Lv : List Nat) {kept : List (Nat × AV)} {obs : List AO} (up : Nat → σ → List (Nat × AV)) (ob : List AO → Nat → σ → List AO) (tk : Nat → σ → List Nat) (ψ : Nat → List α → σ → Nat → Prop) (st0 : σ)
    (hn : l.length = n) (ht : lenA s.objs (getE s.env t) pt = some n) (hkept : pickE s.env Lv = kept) (hobs : s.objs = obs) (h0 : ψ 0 l st0 s.nt) (hs : ASubW E s ⟨up 0 st0 ++ kept, ob obs 0 st0, tk 0 st0, s.nt⟩)
    (stop : ∀ st nt, n ≤ 9223372036854775807 → ψ n [] st nt → AWp P E c (AThen (fun _ => False) Q) ⟨up n st ++ kept, ob obs n st, tk n st, nt⟩)
    (step : ∀ k x rest st nt, At l n k x rest → ψ k (x :: rest) st nt → AWp P E c (AThen (fun s' => ∃ st', ψ (k + 1) rest st' s'.nt ∧ ASubW E s' ⟨up (k + 1) st' ++ kept, ob obs (k + 1) st', tk (k + 1) st', s'.nt⟩) Q) ⟨up k st ++ kept, ob obs k st, tk k st, nt⟩) :
    AWp P E (.loop c) Q s := fun hok a w hsim =>
  awp_zipM l n Lv up ob tk ψ st0 hn (lenA_max hsim ht) hkept hobs h0 hs stop step hok a w hsim

end

theorem pickL_one (x : List DV) (k : Nat) : pickL [x] k = x := rfl
theorem pickL_two (x y : List DV) (l : List (List DV)) (k : Nat) : pickL (x :: y :: l) k = if k = 0 then x else pickL (y :: l) (k - 1) := rfl
theorem ite_consD {c : Prop} [Decidable c] (x y : DV) (xs ys : List DV) : (if c then x :: xs else y :: ys) = (if c then x else y) :: (if c then xs else ys) := by split <;> rfl
theorem ite_nilD {c : Prop} [Decidable c] : (if c then ([] : List DV) else []) = [] := by split <;> rfl
theorem ite_intD {c : Prop} [Decidable c] (k : IntKind) (a b : Int) : (if c then DV.int k a else .int k b) = .int k (if c then a else b) := by split <;> rfl
theorem ite_strD {c : Prop} [Decidable c] (a b : List UInt8) : (if c then DV.str a else .str b) = .str (if c then a else b) := by split <;> rfl
theorem ite_boolD {c : Prop} [Decidable c] (a b : Bool) : (if c then DV.bool a else .bool b) = .bool (if c then a else b) := by split <;> rfl
theorem ite_slD {c : Prop} [Decidable c] (sz : Nat) (a b : List (List DV)) (o : Own) : (if c then DV.sl sz a o else .sl sz b o) = .sl sz (if c then a else b) o := by split <;> rfl
attribute [go_sem] ite_self pickL_one pickL_two ite_consD ite_nilD ite_intD ite_strD ite_boolD ite_slD
theorem dec_lt_self (n : Int) : decide (n < n) = false := by simp
attribute [go_sem] true_or or_true Int.toNat_natCast ne_eq not_false_eq_true implies_true false_implies and_self Nat.le_refl Nat.zero_le Int.natCast_nonneg
attribute [go_sem] stB stC stMark Bool.true_or Bool.false_or
attribute [simp] emptyA_nil emptyA_map
attribute [go_sem] DV.er1 er1L AV.er1 AO.er1 erLL_append
attribute [go_sem] emptyA_nil emptyA_map pickE subW subO dec_lt_self AO.er lenA lenD lenL lenO List.length_map
end Go.AL

namespace Go.AL
open Go
set_option linter.unusedSectionVars false
variable [Inhabited Glob]
set_option linter.unusedSimpArgs false
set_option linter.unusedVariables false

/-! ### A made slice becomes known -/

theorem St.freeze {E : Ent} {pre : List AO} {cs : List DV} {toks : List Nat} {nt : Nat} {I : IH} {τ : TH} {ρ : Nat → Nat} {w : World} (h : St E (pre ++ [.cells cs]) toks nt I τ ρ w) (hk : E.k ≤ pre.length) :
    ∃ vs, RepL I τ cs vs ∧ St E pre toks nt (pub I (ρ pre.length) vs) τ ρ w ∧ Ext I τ (pub I (ρ pre.length) vs) τ := by
  have hget : (pre ++ [AO.cells cs])[pre.length]? = some (.cells cs) := by simp
  obtain ⟨vs, T, h1, h2⟩ := h.obj pre.length _ hget
  have hlast := h.objI pre.length (by simp)
  have hne : ∀ i, i < pre.length → ρ i ≠ ρ pre.length := fun i hi e => by
    have := h.inj i pre.length (by simp; omega) (by simp) e
    omega
  have hext : Ext I τ (pub I (ρ pre.length) vs) τ := ⟨fun b o v hv => by
    unfold pub
    split
    · rename_i e; rw [e, hlast.2 o] at hv; cases hv
    · exact hv, fun _ _ h => h⟩
  have hfr := h.fresh pre.length hk (by simp)
  refine ⟨vs, h2, ⟨fun b o v hv => ?_, fun i o ho => ?_, fun i hi => ⟨(h.objI i (by simp; omega)).1, fun off => ?_⟩, fun i j hi hj e => h.inj i j (by simp; omega) (by simp; omega) e, fun t ht => ?_, h.tokd, h.os, h.tape, h.output, h.size, h.blk, fun b hb o => ?_, fun b hb o v hv => hext.i _ _ _ (h.ifl b hb o v hv), h.rho, fun i hki hi => h.fresh i hki (by simp; omega), h.tau, hk, h.ntle, h.i0, h.tn⟩, hext⟩
  · unfold pub at hv
    split at hv
    · rename_i e
      subst e
      simp only [World.cell?, h1]
      simpa using hv
    · exact h.iok b o v hv
  · have hi : i < pre.length := (List.getElem?_eq_some_iff.1 ho).1
    exact (h.obj i o (by rw [List.getElem?_append_left hi]; exact ho)).mono hext
  · unfold pub
    rw [if_neg (hne i hi)]
    exact (h.objI i (by simp; omega)).2 off
  · obtain ⟨g1, g2⟩ := h.tok t ht
    refine ⟨g1, fun b e r hb => ?_⟩
    obtain ⟨k1, k2, k3, k4⟩ := g2 b e r hb
    refine ⟨k1, k2, fun o ho => ?_, fun i hi => k4 i (by simp; omega)⟩
    unfold pub
    rw [if_neg fun e => k4 pre.length (by simp) e.symm]
    exact k3 o ho
  · unfold pub
    rw [if_neg fun (e : b = ρ pre.length) => by have := hb.1; omega]
    exact h.ifr b hb o

theorem awp_freeze {P : Program} {E : Ent} {Q : Exit → AS → Prop} {s : AS} {c : Code} (t : Nat) (Lv : List Nat) {kept : List (Nat × AV)} {o n sz : Nat} {cs : List DV} (pre : List AO) (ht : getE s.env t = .arr o n sz) (ho : s.objs = pre ++ [.cells cs]) (hop : o = pre.length)
    (hlen : cs.length = n * sz) (hkept : pickE s.env Lv = kept) (hk : E.k ≤ pre.length) (hsc : (kept.all fun p => p.2.scop pre.length) = true)
    (h : AWp P E c Q ⟨(t, .d (.sl sz (chunk sz n cs) .full)) :: kept, pre, s.toks, s.nt⟩) : AWp P E c Q s := by
  refine awp_weak (fun a w hs => ?_) h
  obtain ⟨⟨I, τ, ρ, h1, h2⟩, h3, h4⟩ := hs
  subst hop
  rw [ho] at h1 h2
  obtain ⟨vs, g1, g2, g3⟩ := h1.freeze hk
  refine ⟨⟨_, τ, ρ, g2, fun u => ?_⟩, h3, h4⟩
  have hx : Ext2 I τ ρ pre.length (pub I (ρ pre.length) vs) τ ρ pre.length := ⟨g3, Nat.le_refl _, fun _ _ => rfl⟩
  simp only [getE]
  split
  · rename_i e
    subst e
    have hv := h2 u
    rw [ht] at hv
    obtain ⟨e1, _, e3⟩ := rep_arr hv
    rw [e1]
    exact .d _ _ (RepD_full (ρ pre.length) sz n cs vs (g1.mono g3) hlen e3 (fun j v hj => by simp [pub, hj]))
  · have key : ∀ (L : List Nat) (kept : List (Nat × AV)), pickE s.env L = kept → (kept.all fun p => p.2.scop pre.length) = true → RepA (pub I (ρ pre.length) vs) τ ρ pre.length (getE kept u) (a.tmps.getD u undef) := by
      intro L
      induction L with
      | nil => rintro _ rfl _; exact .unk _
      | cons x L ih =>
        rintro _ rfl hs
        simp only [pickE, List.all_cons, Bool.and_eq_true] at hs
        simp only [pickE, getE]
        split
        · rename_i e
          subst e
          exact ((h2 u).scop hs.1).mono hx
        · exact ih _ rfl hs.2
    exact key Lv kept hkept hsc

/-! ### Slices that are filled one place after the other -/

theorem flatten_len {α : Type} {sz : Nat} : ∀ {xs : List (List α)}, (∀ x ∈ xs, x.length = sz) → xs.flatten.length = xs.length * sz
  | [], _ => by simp
  | x :: xs, h => by
    have := flatten_len (xs := xs) (sz := sz) fun y hy => h y (by simp [hy])
    rw [List.flatten_cons, List.length_append, this, h x (by simp), List.length_cons, Nat.add_mul]; omega

/-- A made slice, filled at its first places. -/
def fillA (z : List DV) (xs : List (List DV)) (n : Nat) : List DV := xs.flatten ++ zeros z (n - xs.length)
theorem fillA_len {z : List DV} {xs : List (List DV)} {n : Nat} (hz : ∀ x ∈ xs, x.length = z.length) (hn : xs.length ≤ n) : (fillA z xs n).length = n * z.length := by
  rw [fillA, List.length_append, zeros_length, flatten_len hz, ← Nat.add_mul]
  congr 1; omega
section
variable {α : Type} {l : List α} {n k : Nat} {x : α} {rest : List α}
theorem take_map_len (f : α → List DV) {sz : Nat} (hf : ∀ x, (f x).length = sz) (m : Nat) : ∀ y ∈ (l.take m).map f, y.length = sz := by
  intro y hy
  obtain ⟨x, _, rfl⟩ := List.mem_map.1 hy
  exact hf x
theorem At.fillL (h : At l n k x rest) (f : α → List DV) (z : List DV) (sz : Nat) (hz : z.length = sz) (hf : ∀ x, (f x).length = sz) : k * sz + sz ≤ (fillA z ((l.take k).map f) n).length := by
  subst hz
  have h1 := h.len
  have h2 := h.lt
  rw [fillA_len (take_map_len f hf k) (by simp; omega), ← Nat.succ_mul]
  exact Nat.mul_le_mul_right _ h2
end

theorem awp_condP {P : Program} {E : Ent} {Q : Exit → AS → Prop} {s : AS} {c : Operand} {x y : Code} {p : Prop} {inst : Decidable p} (hc : ev s c = .d (.bool (@decide p inst))) (ht : p → AWp P E x Q s) (hf : ¬p → AWp P E y Q s) : AWp P E (.cond c x y) Q s :=
  awp_cond hc (fun h => ht (of_decide_eq_true h)) (fun h => hf (of_decide_eq_false h))
theorem awp_condN {P : Program} {E : Ent} {Q : Exit → AS → Prop} {s : AS} {c : Operand} {x y : Code} {b : Bool} (hc : ev s c = .d (.bool (!b))) (ht : b = false → AWp P E x Q s) (hf : b = true → AWp P E y Q s) : AWp P E (.cond c x y) Q s :=
  awp_cond hc (fun h => ht (by simpa using h)) (fun h => hf (by simpa using h))
theorem awp_lenP {P : Program} {E : Ent} {Q : Exit → AS → Prop} {s : AS} {c : Code} (t : Nat) (pt : List (Nat × Nat)) {n : Nat} (hl : lenA s.objs (getE s.env t) pt = some n) (h : n ≤ 9223372036854775807 → AWp P E c Q s) : AWp P E c Q s :=
  fun hok a w hs => h (lenA_max hs hl) hok a w hs
theorem ret_givesE {P : Program} (TT : Tab P) {s : AS} {res : List ResultVar} {nt0 : Nat} {vs : List AV} {r : AV} (h : resList TT s res = some vs) (hp : (resV vs).plain = true) (hr : (resV vs).erR = r) :
    RetQ TT res ([] : List AO).length nt0 (fun _ v o t _ => v.erR = r ∧ o = [] ∧ t = []) .ret s :=
  ret_R TT (m := 0) (toks := []) h (Nat.zero_le _) (by simp) (plain_scoped hp) ⟨hr, by simp, rfl⟩
theorem ret_givesRE {P : Program} (TT : Tab P) {s : AS} {res : List ResultVar} {nt0 : Nat} {vs : List AV} {R : AV → Prop} (h : resList TT s res = some vs) (hp : (resV vs).plain = true) (hr : R (resV vs).erR) :
    RetQ TT res ([] : List AO).length nt0 (fun _ v o t _ => R v.erR ∧ o = [] ∧ t = []) .ret s :=
  ret_R TT (m := 0) (toks := []) h (Nat.zero_le _) (by simp) (plain_scoped hp) ⟨hr, by simp, rfl⟩

theorem layL_succ (c : DV) (cs ys : List DV) (n : Nat) : layL (c :: cs) (n + 1) ys = c :: layL cs n ys := by
  simp [layL, Nat.add_right_comm]
theorem layL_nil (cs : List DV) : layL cs 0 [] = cs := by simp [layL]
theorem layL_cons (c y : DV) (cs ys : List DV) : layL (c :: cs) 0 (y :: ys) = y :: layL cs 0 ys := by simp [layL]
attribute [go_sem] layL_succ layL_nil layL_cons
theorem dne_self (n : Int) : (n != n) = false := by simp
theorem dne_selfS (n : List UInt8) : (n != n) = false := by simp
theorem deq_selfS (n : List UInt8) : (n == n) = true := by simp
theorem deq_self (n : Int) : decide (n = n) = true := by simp
theorem deq_selfI (n : Int) : (n == n) = true := by simp
theorem dne_selfB (b : Bool) : (b != b) = false := by simp
attribute [go_sem] dne_self dne_selfS deq_selfS deq_self deq_selfI dne_selfB
end Go.AL

namespace Go.AL
open Go Go.RowKit Go.ChangeShapes Go.WideShapes
set_option linter.unusedSectionVars false
variable [Inhabited Glob]
set_option linter.unusedSimpArgs false
set_option linter.unusedVariables false

/-! ### What a statement hands in, opened -/

/-- Cells that conform to a type. -/
inductive Conf (T : Nat → TyI) : Nat → List DV → Prop
  | int (t : Nat) (k : IntKind) (n : Int) (h : (T t).t = .int k) (hw : (Lit.int k n).wf = true) : Conf T t [.int k n]
  | bool (t : Nat) (b : Bool) (h : (T t).t = .bool) : Conf T t [.bool b]
  | str (t : Nat) (l : List UInt8) (h : (T t).t = .str) : Conf T t [.str l]
  | slice (t e : Nat) (xs : List (List DV)) (h : (T t).t = .slice e) (hx : ∀ x, x ∈ xs → Conf T e x) : Conf T t [.sl (T e).size xs .no]
  | strct (t : Nat) (fs : List (Nat × Nat)) (ps : List (List DV)) (h : (T t).t = .strct fs) (hl : ps.length = fs.length)
      (hp : ∀ (i : Nat) f p, fs[i]? = some f → ps[i]? = some p → Conf T f.2 p) : Conf T t ps.flatten

/-- The fields of a struct lie one behind the other. -/
def packed (T : Nat → TyI) : List (Nat × Nat) → Nat → Nat → Bool
  | [], off, n => off == n
  | f :: fs, off, n => (f.1 == off) && packed T fs (off + (T f.2).size) n

/-- A set of types that refers to itself alone. -/
def closedT (T : Nat → TyI) (L : List Nat) : Bool := L.all fun t => match (T t).t with
  | .int _ => (T t).size == 1
  | .bool => (T t).size == 1
  | .str => (T t).size == 1
  | .slice e => L.contains e && decide (0 < (T e).size) && (T t).size == 1
  | .strct fs => packed T fs 0 (T t).size && fs.all fun f => L.contains f.2
  | _ => false

theorem cellsOf_of {P : Program} (TT : Tab P) {t : Nat} (h : (TT.T t).t ≠ .other) : P.cellsOf t = (TT.T t).size := by
  have := (TT.ok t).info
  unfold Program.cellsOf
  cases ht : (TT.T t).t <;> simp only [ht] at this <;> first
    | (obtain ⟨i, h1, h2, _⟩ := this; simp [h1, h2])
    | exact absurd ht h

section
variable {H : Type} {enc : TypeId × Value → H} {P : Program} {W : World}

theorem RepL.cons' {I : IH} {τ : TH} {c : DV} {v : Value} {cs : List DV} {vs : List Value} (hl : RepL I τ cs vs) (h : RepD I τ c v) : RepL I τ (c :: cs) (v :: vs) := RepL.cons h hl

theorem exists_list {α : Type} (n : Nat) (Q : Nat → α → Prop) (h : ∀ i, i < n → ∃ x, Q i x) : ∃ xs : List α, xs.length = n ∧ ∀ (i : Nat) x, xs[i]? = some x → Q i x := by
  induction n with
  | zero => exact ⟨[], rfl, by simp⟩
  | succ n ih =>
    obtain ⟨xs, h1, h2⟩ := ih fun i hi => h i (by omega)
    obtain ⟨x, hx⟩ := h n (by omega)
    refine ⟨xs ++ [x], by simp [h1], fun i y hy => ?_⟩
    by_cases hi : i < xs.length
    · rw [List.getElem?_append_left hi] at hy; exact h2 i y hy
    · rw [List.getElem?_append_right (by omega)] at hy
      have : i = n := by have := (List.getElem?_eq_some_iff.1 hy).1; simp at this; omega
      subst this
      simp [h1] at hy
      subst hy
      exact hx

theorem flatten_rep {I : IH} {τ : TH} : ∀ (ps : List (List DV)) (qs : List (List Value)), ps.length = qs.length → (∀ (i : Nat) p q, ps[i]? = some p → qs[i]? = some q → RepL I τ p q) → RepL I τ ps.flatten qs.flatten
  | [], [], _, _ => RepL.nil I τ
  | p :: ps, q :: qs, hl, h => by
    rw [List.flatten_cons, List.flatten_cons]
    exact (h 0 p q rfl rfl).append (flatten_rep ps qs (by simpa using hl) fun i p q hp hq => h (i + 1) p q (by simpa using hp) (by simpa using hq))
  | [], _ :: _, hl, _ => by simp at hl
  | _ :: _, [], hl, _ => by simp at hl

theorem packed_pieces (T : Nat → TyI) (cs : List Value) : ∀ (fs : List (Nat × Nat)) (off : Nat), packed T fs off cs.length = true → off ≤ cs.length →
    (fs.map fun f => (cs.drop f.1).take (T f.2).size).flatten = cs.drop off
  | [], off, h, ho => by
    simp only [packed, beq_iff_eq] at h
    subst h
    simp
  | f :: fs, off, h, ho => by
    simp only [packed, Bool.and_eq_true, beq_iff_eq] at h
    obtain ⟨rfl, h2⟩ := h
    have hle : ∀ (fs : List (Nat × Nat)) (off : Nat), packed T fs off cs.length = true → off ≤ cs.length := by
      intro fs
      induction fs with
      | nil => intro off h; simp only [packed, beq_iff_eq] at h; omega
      | cons f fs ih =>
        intro off h
        simp only [packed, Bool.and_eq_true, beq_iff_eq] at h
        have := ih _ h.2; omega
    rw [List.map_cons, List.flatten_cons, packed_pieces T cs fs _ h2 (hle _ _ h2), ← List.drop_drop, List.take_append_drop]

theorem open_cells (TT : Tab P) (L : List Nat) (hL : closedT TT.T L = true) : ∀ (fuel t : Nat) (cs : List Value) (x : DataW H × List MemPlace), t ∈ L →
    DataW.trod enc P W 0 (fun _ => true) true fuel t cs = some x → ∃ ds, RepL (cellI W) (fun _ => none) ds cs ∧ Conf TT.T t ds := by
  intro fuel
  induction fuel with
  | zero => intro t cs x _ h; simp [DataW.trod] at h
  | succ fuel ih =>
    intro t cs x ht h
    have hc := List.all_eq_true.1 hL t ht
    have hd := (TT.ok t).desc
    cases hty : (TT.T t).t with
    | int k =>
      simp only [hty] at hc hd
      obtain ⟨n, rfl, _, hw⟩ := DataW.trod_int hd h
      exact ⟨[.int k n], (RepL.nil _ _).cons' (.int k n), .int t k n hty hw⟩
    | bool =>
      simp only [hty] at hc hd
      obtain ⟨b, rfl, _⟩ := DataW.trod_bool hd h
      exact ⟨[.bool b], (RepL.nil _ _).cons' (.bool b), .bool t b hty⟩
    | str =>
      simp only [hty] at hc hd
      obtain ⟨s, rfl, _, hs⟩ := DataW.trod_string hd h
      refine ⟨[.str s.data.toList], (RepL.nil _ _).cons' ?_, .str t _ hty⟩
      have := RepD.str (I := cellI W) (τ := fun _ => none) s.data.toList (by have h0 : s.data.toList.length = s.size := rfl
                                                                             simp only [maxLen] at hs; omega)
      simpa using this
    | slice e =>
      simp only [hty, Bool.and_eq_true, decide_eq_true_eq] at hc hd
      obtain ⟨⟨hc1, hc2⟩, hc3⟩ := hc
      have heL : e ∈ L := by simpa using hc1
      have hce : P.cellsOf e = (TT.T e).size := cellsOf_of TT (by intro he; have := List.all_eq_true.1 hL e heL; simp [he] at this)
      rcases DataW.trod_slice hd h with ⟨rfl, _⟩ | ⟨a, len, cap, elems, rest, n, hn, rfl, rfl, hb, hl, hm, hlen, hel, hsp, _⟩
      · exact ⟨[.sl _ [] .no], (RepL.nil _ _).cons' (.sl _ [] .no none 0 (fun _ => undef) (by simp) (by simp) (by omega) (fun _ => rfl) (by simp) (by simp) (by simp) trivial), .slice t e [] hty (by simp)⟩
      · obtain rfl : fuel = n := by omega
        rw [hce] at hel hsp
        have each : ∀ i, i < len → ∃ ds, ∃ vs : List Value, W.cells? 0 (a.add (i * (TT.T e).size)) (TT.T e).size = some vs ∧ RepL (cellI W) (fun _ => none) ds vs ∧ Conf TT.T e ds := by
          intro i hi
          have h1 := hel i hi
          rw [List.getElem?_eq_getElem (by omega), Option.bind_eq_some_iff] at h1
          obtain ⟨vs, h2, h3⟩ := h1
          obtain ⟨ds, h4, h5⟩ := ih e vs _ heL h3
          exact ⟨ds, vs, h2, h4, h5⟩
        have hspot : 0 < cap → a.spot = none := by
          intro hc0
          have : ∃ vs, W.cells? 0 (a.add (0 * (TT.T e).size)) (TT.T e).size = some vs := by
            by_cases h0 : 0 < len
            · obtain ⟨_, vs, h1, _⟩ := each 0 h0; exact ⟨vs, h1⟩
            · have h1 := (hsp rfl).2 0 (by omega)
              have hr := (hsp rfl).1
              rw [List.getElem?_eq_getElem (by omega), Option.bind_eq_some_iff] at h1
              obtain ⟨vs, h2, _⟩ := h1
              rw [show len + 0 = 0 by omega] at h2
              exact ⟨vs, h2⟩
          obtain ⟨vs, h1⟩ := this
          obtain ⟨_, h2, h3⟩ := World.cells?_some h1
          have h4 := h3 0 hc2
          rw [List.getElem?_eq_getElem (by omega)] at h4
          simp only [Nat.zero_mul, Addr.add, if_true] at h4
          unfold World.cell? at h4
          split at h4
          · cases hsp' : a.spot with
            | none => rfl
            | some x => simp [hsp'] at h4
          · cases h4
        obtain ⟨xs, hxl, hxs⟩ := exists_list len _ each
        have hadd : ∀ k, 0 < cap → a.add k = ⟨a.block, a.off + k, none⟩ := fun k hc0 => Addr.add_eq a (hspot hc0) k
        have hcell : ∀ (i : Nat) y (j : Nat) c, xs[i]? = some y → y[j]? = some c → ∃ v, W.cell? ⟨a.block, a.off + (i * (TT.T e).size + j), none⟩ = some v ∧ RepD (cellI W) (fun _ => none) c v := by
          intro i y j c hy hcj
          have hi : i < len := by rw [← hxl]; exact (List.getElem?_eq_some_iff.1 hy).1
          obtain ⟨vs, h1, h2, h3⟩ := hxs i y hy
          obtain ⟨_, h4, h5⟩ := World.cells?_some h1
          obtain ⟨v, h6, h7⟩ := h2.get hcj
          have hj : j < (TT.T e).size := by rw [← h4]; exact (List.getElem?_eq_some_iff.1 h6).1
          have h8 := h5 j hj
          rw [h6, hadd _ (by omega), Addr.add_eq _ rfl] at h8
          exact ⟨v, by simpa [Nat.add_assoc] using h8, h7⟩
        have hlens : ∀ y ∈ xs, y.length = (TT.T e).size := by
          intro y hy
          obtain ⟨i, hi⟩ := List.getElem?_of_mem hy
          obtain ⟨vs, h1, h2, _⟩ := hxs i y hi
          obtain ⟨_, h4, _⟩ := World.cells?_some h1
          rw [h2.1, h4]
        refine ⟨[.sl (TT.T e).size xs .no], (RepL.nil _ _).cons' ?_, .slice t e xs hty fun y hy => ?_⟩
        · subst hxl
          refine .sl _ xs .no (some a) cap (fun k => (W.cell? ⟨a.block, a.off + k, none⟩).getD undef) hlens hl (by simpa [maxLen] using hm) (by simp) (by rintro hc0 adr ⟨⟩; exact hspot hc0) ?_ ?_ trivial
          · rintro adr ⟨⟩ i y j c hy hcj
            obtain ⟨v, h1, _⟩ := hcell i y j c hy hcj
            simp [cellI, h1]
          · intro i y j c hy hcj
            obtain ⟨v, h1, h2⟩ := hcell i y j c hy hcj
            simpa [h1] using h2
        · obtain ⟨i, hi⟩ := List.getElem?_of_mem hy
          exact (hxs i y hi).choose_spec.2.2
    | strct fs =>
      simp only [hty, Bool.and_eq_true] at hc hd
      obtain ⟨F, hF, hfs⟩ := hd
      obtain ⟨xs, n, hn, _, hcl, hxl, hfld⟩ := DataW.trod_struct hF h
      obtain rfl : fuel = n := by omega
      have hsz : P.cellsOf t = (TT.T t).size := cellsOf_of TT (by rw [hty]; simp)
      rw [hsz] at hcl
      have hpk : packed TT.T fs 0 cs.length = true := by rw [hcl]; exact hc.1
      have hpieces := packed_pieces TT.T cs fs 0 hpk (Nat.zero_le _)
      rw [List.drop_zero] at hpieces
      have hin : ∀ f ∈ fs, f.2 ∈ L := fun f hf => by have := List.all_eq_true.1 hc.2 f hf; simpa using this
      have each : ∀ i, i < fs.length → ∃ p, ∃ f, fs[i]? = some f ∧ RepL (cellI W) (fun _ => none) p ((cs.drop f.1).take (TT.T f.2).size) ∧ Conf TT.T f.2 p := by
        intro i hi
        have hfi : fs[i]? = some fs[i] := List.getElem?_eq_getElem hi
        have hiF : i < F.size := by have := congrArg List.length hfs; simp at this; omega
        have hfe : fs[i] = (F[i].offset, F[i].type) := by
          have := congrArg (fun q => q[i]?) hfs
          simp [hiF, hfi] at this
          exact this.symm
        have h1 := hfld i F[i] (by simp [hiF])
        have hmem : fs[i].2 ∈ L := hin _ (List.getElem_mem hi)
        have hcf : P.cellsOf F[i].type = (TT.T F[i].type).size := by
          rw [hfe] at hmem
          exact cellsOf_of TT (by intro he; have := List.all_eq_true.1 hL _ hmem; simp [he] at this)
        rw [List.getElem?_eq_getElem (by omega), hcf] at h1
        rw [hfe] at hmem
        obtain ⟨p, h2, h3⟩ := ih _ _ _ hmem h1
        exact ⟨p, fs[i], hfi, by rw [hfe]; exact h2, by rw [hfe]; exact h3⟩
      obtain ⟨ps, hpl, hps⟩ := exists_list fs.length _ each
      refine ⟨ps.flatten, ?_, .strct t fs ps hty hpl fun i f p hf hp => ?_⟩
      · rw [← hpieces]
        refine flatten_rep ps _ (by simp [hpl]) fun i p q hp hq => ?_
        obtain ⟨f, h1, h2, _⟩ := hps i p hp
        simp only [List.getElem?_map, h1, Option.map_some, Option.some.injEq] at hq
        subst hq
        exact h2
      · obtain ⟨f', h1, _, h3⟩ := hps i p hp
        rw [h1] at hf
        cases hf
        exact h3
    | ptr => simp [hty] at hc
    | map k e => simp [hty] at hc
    | func => simp [hty] at hc
    | iface => simp [hty] at hc
    | other => simp [hty] at hc

end
end Go.AL

namespace Go.AL
open Go Go.RowKit Go.ChangeShapes Go.WideShapes Go.ChangeAt
set_option linter.unusedSectionVars false
variable [Inhabited Glob]
set_option linter.unusedSimpArgs false
set_option linter.unusedVariables false

/-! ### From a law's contract to its statement -/

def ConfA (T : Nat → TyI) (t : Nat) (a : AV) : Prop := (∃ ds, (T t).t.agg = true ∧ a = .agg ds ∧ Conf T t ds) ∨ ∃ c, (T t).t.agg = false ∧ a = .d c ∧ Conf T t [c]
def ConfAll (T : Nat → TyI) : List Nat → List AV → Prop
  | [], [] => True
  | t :: ts, a :: as => ConfA T t a ∧ ConfAll T ts as
  | _, _ => False

section
variable {H : Type} {enc : TypeId × Value → H} {P : Program} {W : World}

theorem open_arg (TT : Tab P) (L : List Nat) (hL : closedT TT.T L = true) {t : Nat} {base : Nat} {v : Value} {d : DataW H} {p : List MemPlace} (ht : t ∈ L) (hv : Value.okWide P W .any base t v) (h : DataW.Trod enc P W 0 (fun _ => true) true t v d p) :
    ∃ a, ConfA TT.T t a ∧ RepA (cellI W) (fun _ => none) (fun _ => 0) 0 a v := by
  obtain ⟨fuel, hf⟩ := h
  obtain ⟨ds, h1, h2⟩ := open_cells TT L hL fuel t _ _ ht hf
  have hc := List.all_eq_true.1 hL t ht
  have hd := (TT.ok t).desc
  have plain : v.cells = #[v] → (TT.T t).t.agg = false → ∃ a, ConfA TT.T t a ∧ RepA (cellI W) (fun _ => none) (fun _ => 0) 0 a v := by
    intro hcv hag
    rw [hcv] at h1
    have hl : ds.length = 1 := by simpa using h1.1
    obtain ⟨c, rfl⟩ : ∃ c, ds = [c] := List.length_eq_one_iff.1 hl
    exact ⟨.d c, .inr ⟨c, hag, rfl, h2⟩, .d _ _ (h1.2 0 c v rfl rfl)⟩
  cases hty : (TT.T t).t with
  | int k =>
    simp only [hty] at hd
    obtain ⟨n, rfl⟩ := okWide_int hd hv
    exact plain rfl (by rw [hty]; rfl)
  | bool =>
    simp only [hty] at hd
    obtain ⟨b, rfl, _⟩ := open_bool hd hv ⟨fuel, hf⟩
    exact plain rfl (by rw [hty]; rfl)
  | str =>
    simp only [hty] at hd
    obtain ⟨s, rfl⟩ := okWide_string hd hv
    exact plain rfl (by rw [hty]; rfl)
  | slice e =>
    simp only [hty] at hd
    obtain ⟨a, len, cap, rfl⟩ := okWide_slice hd hv
    exact plain rfl (by rw [hty]; rfl)
  | strct fs =>
    simp only [hty] at hd
    obtain ⟨F, hF, _⟩ := hd
    simp only [Value.okWide, hF] at hv
    obtain ⟨cs, rfl, _⟩ := hv
    refine ⟨.agg ds, .inl ⟨ds, by rw [hty]; rfl, rfl, h2⟩, ?_⟩
    have := RepA.agg (I := cellI W) (τ := fun _ => none) (ρ := fun _ => 0) (n := 0) ds cs.toList h1
    simpa using this
  | ptr => simp [hty] at hc
  | map k e => simp [hty] at hc
  | func => simp [hty] at hc
  | iface => simp [hty] at hc
  | other => simp [hty] at hc

theorem open_args (TT : Tab P) (L : List Nat) (hL : closedT TT.T L = true) {base : Nat} : ∀ (ts : List Nat) (vs : List Value) (ds : List (DataW H)) (p : List MemPlace), (∀ t ∈ ts, t ∈ L) →
    (∀ (j : Nat) t v, ts[j]? = some t → vs[j]? = some v → Value.okWide P W .any base t v) → DataW.TrodAll enc P W 0 (fun _ => true) true ts vs ds p →
    ∃ as, ConfAll TT.T ts as ∧ RepAs (cellI W) (fun _ => none) (fun _ => 0) 0 as vs
  | [], vs, ds, p, _, _, h => by
    obtain ⟨rfl, _, _⟩ := trodAll_nil h
    exact ⟨[], trivial, rfl, by simp⟩
  | t :: ts, vs, ds, p, ht, hv, h => by
    obtain ⟨v, vs', d, ds', p1, p2, rfl, rfl, rfl, h1, h2⟩ := trodAll_cons h
    obtain ⟨a, g1, g2⟩ := open_arg TT L hL (ht t (by simp)) (hv 0 t v rfl rfl) h1
    obtain ⟨as, g3, g4⟩ := open_args TT L hL ts vs' ds' p2 (fun t h => ht t (by simp [h])) (fun j t v h h' => hv (j + 1) t v (by simpa using h) (by simpa using h')) h2
    refine ⟨a :: as, ⟨g1, g3⟩, by simp [g4.1], fun i v' x hv' hx => ?_⟩
    cases i with
    | zero => simp at hv' hx; subst hv'; subst hx; exact g2
    | succ i => exact g4.2 i v' x (by simpa using hv') (by simpa using hx)

theorem trodAll_len {sp : Nat → Bool} {base : Nat} : ∀ (ts : List Nat) (vs : List Value) (ds : List (DataW H)) (p : List MemPlace), DataW.TrodAll enc P W base sp true ts vs ds p → ds.length = ts.length
  | [], vs, ds, p, h => by obtain ⟨_, rfl, _⟩ := trodAll_nil h; rfl
  | t :: ts, vs, ds, p, h => by
    obtain ⟨v, vs', d, ds', p1, p2, rfl, rfl, rfl, h1, h2⟩ := trodAll_cons h
    simp [trodAll_len ts vs' ds' p2 h2]

theorem below_args (hlaid : laidOutB P = true) {W' : World} (hb : Below W.heap.size W W') : ∀ (ts : List Nat) (vs : List Value) (ds : List (DataW H)) (p : List MemPlace),
    (ts.all fun t => P.readableRec t && decide (t < P.types.size)) = true → (∀ x ∈ p, x.block < W.heap.size) → DataW.TrodAll enc P W 0 (fun _ => true) true ts vs ds p →
    DataW.TrodAll enc P W' 0 (fun b => decide (b < W.heap.size)) true ts vs ds p
  | [], vs, ds, p, _, _, h => by
    obtain ⟨rfl, rfl, rfl⟩ := trodAll_nil h
    exact trodAll_mk0
  | t :: ts, vs, ds, p, hr, hlt, h => by
    obtain ⟨v, vs', d, ds', p1, p2, rfl, rfl, rfl, h1, h2⟩ := trodAll_cons h
    simp only [List.all_cons, Bool.and_eq_true, decide_eq_true_eq] at hr
    exact ⟨p1, p2, Below.trod hlaid hr.1.1 hr.1.2 h1 hb (fun x hx => hlt x (by simp [hx])), below_args hlaid hb ts vs' ds' p2 hr.2 (fun x hx => hlt x (by simp [hx])) h2, rfl⟩

end

theorem lifted_law {C : Checked} {os : Os} {H : Type} {enc : TypeId × Value → H} (TT : Tab C.prog) (L : List Nat) (hL : closedT TT.T L = true) {f : FuncId} {fn : Func} {s : ChangeSpec} {conds : List PathCond} (ts : List TypeId) (bt : TypeId)
    (hG : ∀ w : World, (default : Glob).ok w fun b => b < w.heap.size) (hlaid : laidOutB C.prog = true) (hps : fn.params.toList = ts) (hin : (ts.all fun t => L.contains t) = true) (hrd : (ts.all fun t => C.prog.readableRec t && decide (t < C.prog.types.size)) = true)
    (hres : fn.resultTypes = #[bt]) (hbt : C.prog.underlying bt = some .bool) (hvars : s.vars = [])
    (hspec : ∀ ds : List (DataW H), ds.length = ts.length → s.fn H ds = { results := [.lit (.bool true)], args := ds })
    (law : ∀ as, ConfAll TT.T ts as → Gives C.prog f as (.d (.bool true)))
    (own : ownKnob C.prog.godebug = none) (started : os.Started) (noInit : C.prog.inits.idxOf? f = none) (hfn : C.prog.funcs[f]? = some fn)
    (witness : ∃ (w : World) (tape : Tape) (i : Input), w.os = os ∧ (w.forCall tape i).Shaped C.prog ∧ i.vars = [] ∧ Input.okWide C.prog (w.forCall tape i) .any w.heap.size f i ∧
      s.pre6 enc C.prog fn conds false (w.forCall tape i).memory i.args ∧ ({} : Assume).holds C.prog (lone (Frame.enter C.prog f i.args .normal) [] (w.forCall tape i))) :
    ReturnsInHanded {} C os f .any (s.pre6 enc C.prog fn conds false) (s.post enc C.prog fn false true false false) := by
  refine returnsInHanded_of_change own started noInit hfn witness ?_
  intro W base args ds gs before hval hW _ _
  have hW' := hW
  obtain ⟨p, q, hA, hV, rfl, hfz, hnd⟩ := hW
  rw [hvars] at hV
  obtain ⟨rfl, rfl⟩ := trodVars_none hV
  simp only [List.append_nil] at hW'
  have hlt : ∀ x ∈ p, x.block < W.heap.size := hW'.lt
  rw [hps] at hA
  have hdl : ds.length = ts.length := trodAll_len _ _ _ _ hA
  obtain ⟨as, h1, h2⟩ := open_args (base := base) TT L hL ts args.toList ds p (fun t ht => by have := List.all_eq_true.1 hin t ht; simpa using this) (fun j t v ht hv => hval j t v (by rw [← Array.getElem?_toList, hps]; exact ht) (by rw [← Array.getElem?_toList]; exact hv)) hA
  have hr := run_pure (R := fun v => v = .d (.bool true)) (hG W) (law as h1) h2
  rw [Array.toArray_toList] at hr
  refine hr.mono fun e W' ⟨x, r, I, τ, ρ, he, hr, hx, hb⟩ => ?_
  subst hr
  obtain rfl := rep_bool hx
  subst he
  refine ⟨_, rfl, ds, [], p, [], p, [], hW', ?_, ?_, ?_, keptBut_below hb, fun h => by cases h⟩
  · rw [List.append_nil, hspec ds hdl, hres]
    exact trodAll_mk1 (shut_bool hbt true)
  · rw [List.append_nil, hspec ds hdl, hps]
    exact below_args hlaid hb ts args.toList ds p hrd hlt hA
  · rw [List.append_nil, hspec ds hdl, hvars]
    rfl

/-! ### What conforms, taken apart -/
section
variable {T : Nat → TyI} {t : Nat} {ds : List DV}
theorem conf_int {k : IntKind} (h : Conf T t ds) (ht : (T t).t = .int k) : ∃ n, ds = [.int k n] ∧ (Lit.int k n).wf = true := by
  cases h with
  | int _ k' n h' hw => rw [h'] at ht; cases ht; exact ⟨n, rfl, hw⟩
  | bool _ b h' => rw [h'] at ht; cases ht
  | str _ l h' => rw [h'] at ht; cases ht
  | slice _ e xs h' hx => rw [h'] at ht; cases ht
  | strct _ fs ps h' hl hp => rw [h'] at ht; cases ht
theorem conf_slice {e : Nat} (h : Conf T t ds) (ht : (T t).t = .slice e) : ∃ xs, ds = [.sl (T e).size xs .no] ∧ ∀ x ∈ xs, Conf T e x := by
  cases h with
  | int _ k' n h' hw => rw [h'] at ht; cases ht
  | bool _ b h' => rw [h'] at ht; cases ht
  | str _ l h' => rw [h'] at ht; cases ht
  | slice _ e xs h' hx => rw [h'] at ht; cases ht; exact ⟨xs, rfl, hx⟩
  | strct _ fs ps h' hl hp => rw [h'] at ht; cases ht
def ConfFs (T : Nat → TyI) : List (Nat × Nat) → List DV → Prop
  | [], ds => ds = []
  | f :: fs, ds => ∃ p q, ds = p ++ q ∧ Conf T f.2 p ∧ ConfFs T fs q
theorem map_of {α : Type} {f : α → List DV} : ∀ (xs : List (List DV)), (∀ x ∈ xs, ∃ y, x = f y) → ∃ l : List α, xs = l.map f
  | [], _ => ⟨[], rfl⟩
  | x :: xs, h => by
    obtain ⟨y, rfl⟩ := h x (by simp)
    obtain ⟨l, rfl⟩ := map_of xs fun x hx => h x (by simp [hx])
    exact ⟨y :: l, rfl⟩
end

end Go.AL

namespace Go.AL
open Go
set_option linter.unusedSectionVars false
variable [Inhabited Glob]
set_option linter.unusedSimpArgs false
set_option linter.unusedVariables false

/-! ### Regions whose new variables are found by program -/

/-- The variables that a region may make. -/
def frA (s : AS) : List Nat := [s.objs.length, s.objs.length + 1, s.objs.length + 2, s.objs.length + 3, s.objs.length + 4]

section
variable {P : Program} (TT : Tab P) {E : Ent} {Q : Exit → AS → Prop} {s : AS}

theorem stCheck_few {A : List Nat} {l : List Oper} (h : stFew l = true) : stCheck A l = true := by simp [stCheck, h]

theorem lexP_mono {all : Array Oper} {k : Nat} {o : Oper} {m : Bool} : ∀ (j : Nat) (l : List Oper), lexP false all k o j l = true → lexP m all k o j l = true
  | _, [], _ => rfl
  | j, oj :: rest, h => by
    simp only [lexP, Bool.and_eq_true, Bool.or_eq_true] at h ⊢
    refine ⟨?_, lexP_mono _ _ h.2⟩
    rcases h.1 with (h | h) | h
    · exact .inl (.inl h)
    · refine .inl (.inr ⟨?_, h.2⟩)
      have := h.1
      simp only [compatM, Bool.false_and, Bool.or_false] at this
      simp [compatM, this]
    · exact .inr h
theorem lexG_mono {all : Array Oper} {m : Bool} : ∀ (k : Nat) (l : List Oper), lexG false all k l = true → lexG m all k l = true
  | _, [], _ => rfl
  | k, o :: rest, h => by
    simp only [lexG, Bool.and_eq_true] at h ⊢
    exact ⟨⟨h.1.1, lexP_mono _ _ h.1.2⟩, lexG_mono _ _ h.2⟩

theorem awp_regionF (T : List Nat) (hm : P.follows .mixedOrders = true) {id : Nat} {l : List Oper} (hB : lexG false l.toArray 0 l = true) (hS : stFew l = true)
    (h : ∀ K : AS → Prop, (∀ s', Q .normal s' → K s') → rvd TT T (frA s) (l.map (·.dst)) l s K) : AWp P E (.region id l.toArray true) Q s :=
  awp_regionD TT T (frA s) hm (lexG_mono _ _ hB) (stCheck_few hS) h

theorem awp_seqrF (T : List Nat) (hm : P.follows .mixedOrders = true) {id : Nat} {l : List Oper} {y : Code} (hB : lexG false l.toArray 0 l = true) (hS : stFew l = true)
    (h : ∀ K : AS → Prop, (∀ s', AWp P E y Q s' → K s') → rvd TT T (frA s) (l.map (·.dst)) l s K) : AWp P E (.seq (.region id l.toArray true) y) Q s :=
  awp_seqrD TT T (frA s) hm (lexG_mono _ _ hB) (stCheck_few hS) h

/-- With marks for the stores. -/
theorem awp_regionG (T A : List Nat) (hm : P.follows .mixedOrders = true) {id : Nat} {l : List Oper} (hB : lexG ((A ++ frA s).contains stMark) l.toArray 0 l = true) (hS : stCheck (A ++ frA s) l = true)
    (h : ∀ K : AS → Prop, (∀ s', Q .normal s' → K s') → rvd TT T (A ++ frA s) (l.map (·.dst)) l s K) : AWp P E (.region id l.toArray true) Q s :=
  awp_regionD TT T (A ++ frA s) hm hB hS h

theorem awp_seqrG (T A : List Nat) (hm : P.follows .mixedOrders = true) {id : Nat} {l : List Oper} {y : Code} (hB : lexG ((A ++ frA s).contains stMark) l.toArray 0 l = true) (hS : stCheck (A ++ frA s) l = true)
    (h : ∀ K : AS → Prop, (∀ s', AWp P E y Q s' → K s') → rvd TT T (A ++ frA s) (l.map (·.dst)) l s K) : AWp P E (.seq (.region id l.toArray true) y) Q s :=
  awp_seqrD TT T (A ++ frA s) hm hB hS h

end
attribute [go_sem] frA

/-! ### Cells, one by one -/

theorem repL_one {I : IH} {τ : TH} {c : DV} {cs : List DV} {vs : List Value} (h : RepL I τ (c :: cs) vs) : ∃ v us, vs = v :: us ∧ RepD I τ c v ∧ RepL I τ cs us := by
  obtain ⟨h1, h2⟩ := h
  cases vs with
  | nil => simp at h1
  | cons v us => exact ⟨v, us, rfl, h2 0 c v rfl rfl, by simpa using h1, fun i c v hc hv => h2 (i + 1) c v (by simpa using hc) (by simpa using hv)⟩
theorem repL_done {I : IH} {τ : TH} {vs : List Value} (h : RepL I τ [] vs) : vs = [] := by
  cases vs with
  | nil => rfl
  | cons v vs => have := h.1; simp at this

/-! ### Tokens of several slices -/

theorem tk_b {a b : Own} {n : Nat} (h : apartO a b) : ∀ t ∈ tkOf a ++ [n], t ∈ n :: dropTok b (tkOf a ++ tkOf b) := by
  intro t ht
  rcases List.mem_append.1 ht with ht | ht
  · exact List.mem_cons_of_mem _ (mem_dropTok (by simp [ht]) (h t ht))
  · simp at ht; subst ht; simp
theorem tk3_a {a b c : Own} {n : Nat} (h : apartO b a) (h' : apartO c a) : ∀ t ∈ n :: (tkOf b ++ tkOf c), t ∈ n :: dropTok a (tkOf a ++ (tkOf b ++ tkOf c)) := by
  intro t ht
  rcases List.mem_cons.1 ht with rfl | ht
  · simp
  · rcases List.mem_append.1 ht with ht | ht
    · exact List.mem_cons_of_mem _ (mem_dropTok (by simp [ht]) (h t ht))
    · exact List.mem_cons_of_mem _ (mem_dropTok (by simp [ht]) (h' t ht))
theorem tk3_b {a b c : Own} {n : Nat} (h : apartO a b) (h' : apartO c b) : ∀ t ∈ tkOf a ++ n :: tkOf c, t ∈ n :: dropTok b (tkOf a ++ (tkOf b ++ tkOf c)) := by
  intro t ht
  rcases List.mem_append.1 ht with ht | ht
  · exact List.mem_cons_of_mem _ (mem_dropTok (by simp [ht]) (h t ht))
  · rcases List.mem_cons.1 ht with rfl | ht
    · simp
    · exact List.mem_cons_of_mem _ (mem_dropTok (by simp [ht]) (h' t ht))
theorem tk3_c {a b c : Own} {n : Nat} (h : apartO a c) (h' : apartO b c) : ∀ t ∈ tkOf a ++ (tkOf b ++ [n]), t ∈ n :: dropTok c (tkOf a ++ (tkOf b ++ tkOf c)) := by
  intro t ht
  rcases List.mem_append.1 ht with ht | ht
  · exact List.mem_cons_of_mem _ (mem_dropTok (by simp [ht]) (h t ht))
  · rcases List.mem_append.1 ht with ht | ht
    · exact List.mem_cons_of_mem _ (mem_dropTok (by simp [ht]) (h' t ht))
    · simp at ht; subst ht; simp
theorem apartO_new' {own : Own} {n : Nat} (h : ownLt own n) : apartO (.tok n) own := by
  intro t ht ht'
  simp only [tkOf, List.mem_singleton] at ht
  subst ht
  exact apartO_new h t ht' (by simp [tkOf])
theorem apartO_full (o : Own) : apartO .full o := by intro t ht; simp [tkOf] at ht
theorem apartO_full' (o : Own) : apartO o .full := by intro t _ h; simp [tkOf] at h
/-- Three slices apart. -/
def own3 (a b c : Own) (n : Nat) : Prop := (ownLt a n ∧ ownLt b n ∧ ownLt c n) ∧ apartO a b ∧ apartO a c ∧ apartO b a ∧ apartO b c ∧ apartO c a ∧ apartO c b
theorem own3_0 (n : Nat) : own3 .full .full .full n := ⟨⟨trivial, trivial, trivial⟩, apartO_full _, apartO_full _, apartO_full _, apartO_full _, apartO_full _, apartO_full _⟩
theorem own3_mono {a b c : Own} {n m : Nat} (h : own3 a b c n) (hm : n ≤ m) : own3 a b c m := ⟨⟨ownLt_mono h.1.1 hm, ownLt_mono h.1.2.1 hm, ownLt_mono h.1.2.2 hm⟩, h.2⟩
theorem own3_a {a b c : Own} {n : Nat} (h : own3 a b c n) : own3 (.tok n) b c (n + 1) := ⟨⟨ownLt_tok, ownLt_mono h.1.2.1 (by omega), ownLt_mono h.1.2.2 (by omega)⟩, apartO_new' h.1.2.1, apartO_new' h.1.2.2, apartO_new h.1.2.1, h.2.2.2.2.1, apartO_new h.1.2.2, h.2.2.2.2.2.2⟩
theorem own3_b {a b c : Own} {n : Nat} (h : own3 a b c n) : own3 a (.tok n) c (n + 1) := ⟨⟨ownLt_mono h.1.1 (by omega), ownLt_tok, ownLt_mono h.1.2.2 (by omega)⟩, apartO_new h.1.1, h.2.2.1, apartO_new' h.1.1, apartO_new' h.1.2.2, h.2.2.2.2.2.1, apartO_new h.1.2.2⟩
theorem own3_c {a b c : Own} {n : Nat} (h : own3 a b c n) : own3 a b (.tok n) (n + 1) := ⟨⟨ownLt_mono h.1.1 (by omega), ownLt_mono h.1.2.1 (by omega), ownLt_tok⟩, h.2.1, apartO_new h.1.1, h.2.2.2.1, apartO_new h.1.2.1, apartO_new' h.1.1, apartO_new' h.1.2.1⟩

/-! ### What is handed back may be handed back with less -/

theorem AC.noTok {P : Program} {g : FuncId} {args : List AV} {lent : List AO} {R : Nat → AV → List AO → List Nat → Nat → Prop} (h : AC P g args lent R) : AC P g args lent fun n v o t m => t = [] ∧ ∃ t', R n v o t' m :=
  ⟨h.call, fun E vs h1 h2 h3 => (h.run E vs h1 h2 h3).mono fun _ _ ⟨x, he, r, o, t, m, I, τ, ρ, hR, hS, hA⟩ => ⟨x, he, r, o, [], m, I, τ, ρ, ⟨rfl, t, hR⟩, hS.sub [] (by simp), hA⟩⟩
theorem AC.erM {P : Program} {g : FuncId} {args : List AV} {lent : List AO} {R R' : Nat → AV → List AO → List Nat → Nat → Prop} (h : AC P g args lent R) (hr : ∀ n r o t m, R n r o t m → R' n r.erR o t m) : AC P g args lent R' := AC.erR (h.mono hr)

/-! ### A slice that has nothing, of any size -/

theorem awp_nilSlot {P : Program} {E : Ent} {Q : Exit → AS → Prop} {s : AS} {c : Code} (t n : Nat) (ht : getE s.env t = .d (.sl 0 [] .full)) (h : AWp P E c Q { s with env := (t, .d (.sl n [] .full)) :: s.env }) : AWp P E c Q s := by
  refine awp_weak (fun a w hs => ?_) h
  obtain ⟨⟨I, τ, ρ, h1, h2⟩, h3, h4⟩ := hs
  refine ⟨⟨I, τ, ρ, h1, fun u => ?_⟩, h3, h4⟩
  simp only [getE]
  split
  · rename_i e
    subst e
    have := h2 u
    rw [ht] at this
    exact this.empty
  · exact h2 u

/-! ### A slice that has nothing may be handed in as one of any type -/

end Go.AL
