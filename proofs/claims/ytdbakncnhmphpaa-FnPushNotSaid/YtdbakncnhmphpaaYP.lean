/- Walks of functions of the cut by the abstract logic, and what they compute. Filled by a program of mine from a template. -/
import Derived.Test.YtdbakncnhmphpaaY8
import Derived.Test.YtdbakncnhmphpaaG0
namespace Go.Proofs.Ytdbakncnhmphpaa
open Go Go.AL
set_option linter.unusedSimpArgs false
set_option linter.unusedVariables false
/-! ### Pushed expressions say the same -/
def confB (l : List Kinded) (fs : List Field) : Bool := fs.all fun f => kindB f.name l == f.kind
theorem conf_get {l : List Kinded} {fs : List Field} (h : confB l fs = true) {nm : List UInt8} {v : Int × Int} (hv : fieldO fs nm = some v) : v.1 = kindB nm l := by
  obtain ⟨f, h1, rfl, rfl⟩ := fieldO_mem hv
  have := List.all_eq_true.1 h f h1
  simpa using (beq_iff_eq.1 this).symm
def confW (a : List Kinded) (w : List Thing) : Bool := w.all fun t => confB a t.fields
theorem conf_flds {a : List Kinded} {w : List Thing} (h : confW a w = true) (n : Int) : confB a (flds w n) = true := by
  unfold flds
  rw [List.getD_eq_getElem?_getD]
  cases hq : w[n.toNat]? with
  | none => simp [confB]
  | some t => exact List.all_eq_true.1 h t (List.mem_of_getElem? hq)
theorem kindE_0 (a b : List Kinded) (k n : Int) (nm : List UInt8) : kindE a b (.mk k n nm []) = kN a b k nm 0 0 := by simp [kindE_mk, kindEs]
theorem kindE_1 (a b : List Kinded) (k n : Int) (nm : List UInt8) (x : Expr) : kindE a b (.mk k n nm [x]) = if kindE a b x = 0 then 0 else kN a b k nm (kindE a b x) 0 := by simp [kindE_mk, kindEs]
theorem kindE_2 (a b : List Kinded) (k n : Int) (nm : List UInt8) (x y : Expr) : kindE a b (.mk k n nm [x, y]) = if kindE a b x = 0 ∨ kindE a b y = 0 then 0 else kN a b k nm (kindE a b x) (kindE a b y) := by simp [kindE_mk, kindEs]
/-- A value has the kind of its expression, unless there is a fault. -/
def soundE (κ : Int) (v : Ev) : Prop := v.f = 0 → v.k = κ
theorem sound_F {κ f : Int} (h : f ≠ 0) : soundE κ (evF f) := fun h0 => absurd h0 h
theorem sF {κ : Int} (f : Int) (h : f ≠ 0) : soundE κ (evF f) := sound_F h
theorem sound_kind {κ : Int} {v : Ev} (h : soundE κ v) : kindV κ v = v := by
  unfold kindV
  split
  · rename_i hc; exact absurd (h hc.1) hc.2
  · rfl
theorem sI {κ : Int} {c : Prop} [Decidable c] {a b : Ev} (h1 : c → soundE κ a) (h2 : ¬c → soundE κ b) : soundE κ (if c then a else b) := by
  by_cases h : c
  · rw [if_pos h]; exact h1 h
  · rw [if_neg h]; exact h2 h
theorem good_len {k n : Int} {nm : List UInt8} {ps : List Expr} (h : goodE (.mk k n nm ps) = true) : (ps.length : Int) = partsN k ∧ (1 ≤ k ∧ k ≤ 15) ∧ goodEs ps = true := by
  rw [goodE_mk, Bool.and_eq_true] at h
  obtain ⟨h1, h2⟩ := parts_of h.1
  exact ⟨h1, h2, h.2⟩
theorem sound_all {w : List Thing} {r : Request} {a b : List Kinded} (ha : confW a w = true) (hb : confB b r.fields = true) (e : Expr) : goodE e = true → kindE a b e ≠ 0 → soundE (kindE a b e) (evE w r e) := by
  induction e using Expr.ind with
  | h k n nm ps ih =>
    intro hg hk
    obtain ⟨hl, hk15, hps⟩ := good_len hg
    have hO : ∀ {l : List Kinded} {fs : List Field}, confB l fs = true → soundE (kindB nm l) (evO (fieldO fs nm)) := fun {l fs} h => by
      cases hq : fieldO fs nm with
      | none => exact show soundE (kindB nm l) (evF 2) from sF 2 (by decide)
      | some v => exact fun _ => conf_get h hq
    match ps, ih, hps, hl with
    | [], ih, hps, hl =>
      rw [evE_0]
      rw [kindE_0] at hk ⊢
      have : k = 1 ∨ k = 2 ∨ k = 3 ∨ k = 4 ∨ k = 5 ∨ k = 6 ∨ k = 7 := by
        unfold partsN at hl
        split at hl
        · simp at hl
        · split at hl
          · simp at hl
          · omega
      rcases this with rfl | rfl | rfl | rfl | rfl | rfl | rfl
      · exact fun _ => rfl
      · exact fun _ => rfl
      · show soundE 3 (if inB n 0 ((w.length : Int) - 1) then ⟨3, n, 0⟩ else evF 3)
        exact sI (fun _ => fun _ => rfl) fun _ => sF 3 (by decide)
      · exact fun _ => rfl
      · exact fun _ => rfl
      · exact fun _ => rfl
      · exact hO hb
    | [x], ih, hps, hl =>
      rw [evE_1]
      rw [kindE_1] at hk ⊢
      by_cases hx0 : kindE a b x = 0
      · simp [hx0] at hk
      rw [if_neg hx0] at hk ⊢
      have hx := ih x (by simp) (goodEs_mem hps x (by simp)) hx0
      have : k = 8 ∨ k = 9 ∨ k = 13 := by
        unfold partsN at hl
        split at hl
        · assumption
        · split at hl <;> simp at hl
      generalize kindE a b x = κ at *
      generalize evE w r x = v at *
      rcases this with rfl | rfl | rfl
      · by_cases h3 : κ = 3
        · subst h3
          show soundE (kindB nm a) (if (kindV 3 v).f ≠ 0 then evF (kindV 3 v).f else evO (fieldO (flds w (kindV 3 v).n) nm))
          exact sI (fun h => sound_F h) fun _ => hO (conf_flds ha _)
        · simp [kN, h3] at hk
      · by_cases h3 : κ = 3
        · subst h3
          show soundE 1 (if (kindV 3 v).f ≠ 0 then evF (kindV 3 v).f else evT (fieldO (flds w (kindV 3 v).n) nm).isSome)
          exact sI (fun h => sound_F h) fun _ => fun _ => rfl
        · simp [kN, h3] at hk
      · by_cases h3 : κ = 1
        · subst h3
          show soundE 1 (if (kindV 1 v).f ≠ 0 then evF (kindV 1 v).f else evT ((kindV 1 v).n == 0))
          exact sI (fun h => sound_F h) fun _ => fun _ => rfl
        · simp [kN, h3] at hk
    | [x, y], ih, hps, hl =>
      rw [evE_2]
      rw [kindE_2] at hk ⊢
      by_cases h00 : kindE a b x = 0 ∨ kindE a b y = 0
      · simp [h00] at hk
      rw [if_neg h00] at hk ⊢
      have hx := ih x (by simp) (goodEs_mem hps x (by simp)) (fun h => h00 (.inl h))
      have hy := ih y (by simp) (goodEs_mem hps y (by simp)) (fun h => h00 (.inr h))
      have : k = 10 ∨ k = 11 ∨ k = 12 ∨ k = 14 ∨ k = 15 := by
        unfold partsN at hl
        split at hl
        · simp at hl
        · split at hl
          · assumption
          · simp at hl
      generalize kindE a b x = κ at *
      generalize kindE a b y = μ at *
      generalize evE w r x = v at *
      generalize evE w r y = u at *
      rcases this with rfl | rfl | rfl | rfl | rfl
      · have h3 : κ = μ := by simpa [kN] using hk
        rw [show kN a b 10 nm κ μ = 1 by simp [kN, h3]]
        show soundE 1 (if v.f ≠ 0 then evF v.f else if u.f ≠ 0 then evF u.f else if v.k = u.k then evT (v.n == u.n) else evF 1)
        exact sI (fun h => sound_F h) fun _ => sI (fun h => sound_F h) fun _ => sI (fun _ => fun _ => rfl) fun _ => sF 1 (by decide)
      · have h3 : κ = 2 ∧ μ = 2 := by simpa [kN] using hk
        rw [show kN a b 11 nm κ μ = 1 by simp [kN, h3]]
        show soundE 1 (if v.f ≠ 0 then evF v.f else if u.f ≠ 0 then evF u.f else if v.k = 2 ∧ u.k = 2 then evT (decide (v.n < u.n)) else evF 1)
        exact sI (fun h => sound_F h) fun _ => sI (fun h => sound_F h) fun _ => sI (fun _ => fun _ => rfl) fun _ => sF 1 (by decide)
      · have h3 : κ = 3 ∧ μ = 3 := by simpa [kN] using hk
        rw [show kN a b 12 nm κ μ = 1 by simp [kN, h3]]
        show soundE 1 (if v.f ≠ 0 then evF v.f else if u.f ≠ 0 then evF u.f else if v.k = 3 ∧ u.k = 3 then evT (inW w u.n w.length v.n) else evF 1)
        exact sI (fun h => sound_F h) fun _ => sI (fun h => sound_F h) fun _ => sI (fun _ => fun _ => rfl) fun _ => sF 1 (by decide)
      · have h3 : κ = 1 ∧ μ = 1 := by simpa [kN] using hk
        obtain ⟨rfl, rfl⟩ := h3
        show soundE 1 (if (kindV 1 v).f ≠ 0 then evF (kindV 1 v).f else if (kindV 1 v).n = 0 then kindV 1 v else kindV 1 u)
        rw [sound_kind hx, sound_kind hy]
        exact sI (fun h => sound_F h) fun _ => sI (fun _ => hx) fun _ => hy
      · have h3 : κ = 1 ∧ μ = 1 := by simpa [kN] using hk
        obtain ⟨rfl, rfl⟩ := h3
        show soundE 1 (if (kindV 1 v).f ≠ 0 then evF (kindV 1 v).f else if (kindV 1 v).n = 1 then kindV 1 v else kindV 1 u)
        rw [sound_kind hx, sound_kind hy]
        exact sI (fun h => sound_F h) fun _ => sI (fun _ => hx) fun _ => hy
    | _ :: _ :: _ :: _, _, _, hl =>
      have := partsN_le k
      simp at hl; omega
/-- The other truth, or the fault. -/
def notV (v : Ev) : Ev := if v.f ≠ 0 then evF v.f else evT (v.n == 0)
def turnV (t : Bool) (v : Ev) : Ev := if t then notV v else v
theorem evOK_cases {w : List Thing} {v : Ev} (h : evOK w v) (hs : soundE 1 v) : (∃ f, f ≠ 0 ∧ v = evF f) ∨ v = evT true ∨ v = evT false := by
  obtain ⟨k, n, f⟩ := v
  by_cases hf : f = 0
  · subst hf
    have hk : k = 1 := hs rfl
    subst hk
    rcases valB_1 (h.1 rfl) with h1 | h1
    · right; right; dsimp only at h1; subst h1; rfl
    · right; left; dsimp only at h1; subst h1; rfl
  · obtain ⟨h1, h2⟩ := h.2.1 hf
    dsimp only at h1 h2
    subst h1; subst h2
    exact .inl ⟨f, hf, rfl⟩
theorem notV_F {f : Int} (h : f ≠ 0) : notV (evF f) = evF f := if_pos h
theorem notV_not {w : List Thing} {v : Ev} (h : evOK w v) (hs : soundE 1 v) : notV (notV v) = v := by
  rcases evOK_cases h hs with ⟨f, hf, rfl⟩ | rfl | rfl
  · rw [notV_F hf, notV_F hf]
  · rfl
  · rfl
theorem node_not (w : List Thing) (r : Request) (n : Int) (nm : List UInt8) {v b : Ev} (hs : soundE 1 v) : evNode w r 13 n nm v b = notV v := by
  show (if (kindV 1 v).f ≠ 0 then evF (kindV 1 v).f else evT ((kindV 1 v).n == 0)) = _
  rw [sound_kind hs]; rfl
def andV (v u : Ev) : Ev := if v.f ≠ 0 then evF v.f else if v.n = 0 then v else u
def orV (v u : Ev) : Ev := if v.f ≠ 0 then evF v.f else if v.n = 1 then v else u
theorem node_and (w : List Thing) (r : Request) (n : Int) (nm : List UInt8) {v u : Ev} (hv : soundE 1 v) (hu : soundE 1 u) : evNode w r 14 n nm v u = andV v u := by
  show (if (kindV 1 v).f ≠ 0 then evF (kindV 1 v).f else if (kindV 1 v).n = 0 then kindV 1 v else kindV 1 u) = _
  rw [sound_kind hv, sound_kind hu]; rfl
theorem node_or (w : List Thing) (r : Request) (n : Int) (nm : List UInt8) {v u : Ev} (hv : soundE 1 v) (hu : soundE 1 u) : evNode w r 15 n nm v u = orV v u := by
  show (if (kindV 1 v).f ≠ 0 then evF (kindV 1 v).f else if (kindV 1 v).n = 1 then kindV 1 v else kindV 1 u) = _
  rw [sound_kind hv, sound_kind hu]; rfl
theorem morgan_and {w : List Thing} {v u : Ev} (h : evOK w v) (hs : soundE 1 v) : orV (notV v) (notV u) = notV (andV v u) := by
  rcases evOK_cases h hs with ⟨f, hf, rfl⟩ | rfl | rfl
  · rw [notV_F hf]; show (if f ≠ 0 then _ else _) = notV (if f ≠ 0 then _ else _); rw [if_pos hf, if_pos hf]; exact (notV_F hf).symm
  · rfl
  · rfl
theorem morgan_or {w : List Thing} {v u : Ev} (h : evOK w v) (hs : soundE 1 v) : andV (notV v) (notV u) = notV (orV v u) := by
  rcases evOK_cases h hs with ⟨f, hf, rfl⟩ | rfl | rfl
  · rw [notV_F hf]; show (if f ≠ 0 then _ else _) = notV (if f ≠ 0 then _ else _); rw [if_pos hf, if_pos hf]; exact (notV_F hf).symm
  · rfl
  · rfl
theorem sound_not (v : Ev) : soundE 1 (notV v) := sI (fun h => sound_F h) fun _ _ => rfl
theorem sound_turn {v : Ev} (h : soundE 1 v) (t : Bool) : soundE 1 (turnV t v) := by cases t; exact h; exact sound_not v
/-- The shape of an expression with a truth, as pushing sees it. -/
theorem push_cases {a b : List Kinded} {k n : Int} {nm : List UInt8} {ps : List Expr} (hg : goodE (.mk k n nm ps) = true) (hk : kindE a b (.mk k n nm ps) = 1) :
    (k = 13 ∧ ∃ x, ps = [x] ∧ goodE x = true ∧ kindE a b x = 1) ∨
    ((k = 14 ∨ k = 15) ∧ ∃ x y, ps = [x, y] ∧ (goodE x = true ∧ kindE a b x = 1) ∧ goodE y = true ∧ kindE a b y = 1) ∨
    (k ≠ 13 ∧ k ≠ 14 ∧ k ≠ 15) := by
  obtain ⟨hl, hk15, hps⟩ := good_len hg
  by_cases h13 : k = 13
  · subst h13
    simp [partsN] at hl
    obtain ⟨x, rfl⟩ := one_of (by omega : ps.length = 1)
    rw [kindE_1] at hk
    have hx : kindE a b x = 1 := by
      split at hk
      · cases hk
      · simpa [kN] using hk
    exact .inl ⟨rfl, x, rfl, goodEs_mem hps x (by simp), hx⟩
  by_cases h14 : k = 14 ∨ k = 15
  · have h2 : ps.length = 2 := by rcases h14 with rfl | rfl <;> simp [partsN] at hl <;> omega
    obtain ⟨x, y, rfl⟩ := two_ofE h2
    rw [kindE_2] at hk
    have hx : kindE a b x = 1 ∧ kindE a b y = 1 := by
      split at hk
      · cases hk
      · rcases h14 with rfl | rfl <;> simpa [kN] using hk
    exact .inr (.inl ⟨h14, x, y, rfl, ⟨goodEs_mem hps x (by simp), hx.1⟩, goodEs_mem hps y (by simp), hx.2⟩)
  · exact .inr (.inr ⟨h13, fun h => h14 (.inl h), fun h => h14 (.inr h)⟩)
theorem push_13 (n : Int) (nm : List UInt8) (x : Expr) (t : Bool) : pushE (.mk 13 n nm [x]) t = pushE x (!t) := by rw [pushE_mk, if_pos rfl, pushEs_one]; rfl
theorem push_14 (n : Int) (nm : List UInt8) (x y : Expr) (t : Bool) : pushE (.mk 14 n nm [x, y]) t = .mk (if t then 15 else 14) n nm [pushE x t, pushE y t] := by rw [pushE_mk, if_neg (by decide), if_pos (.inl rfl), pushEs_two]; rfl
theorem push_15 (n : Int) (nm : List UInt8) (x y : Expr) (t : Bool) : pushE (.mk 15 n nm [x, y]) t = .mk (if t then 14 else 15) n nm [pushE x t, pushE y t] := by rw [pushE_mk, if_neg (by decide), if_pos (.inr rfl), pushEs_two]; rfl
theorem push_o {k : Int} (h : k ≠ 13 ∧ k ≠ 14 ∧ k ≠ 15) (n : Int) (nm : List UInt8) (ps : List Expr) (t : Bool) : pushE (.mk k n nm ps) t = if t then .mk 13 0 [] [.mk k n nm ps] else .mk k n nm ps := by
  rw [pushE_mk, if_neg h.1, if_neg (fun q => q.elim h.2.1 h.2.2)]
theorem push_sem {w : List Thing} {r : Request} {a b : List Kinded} (hr : ReqOK w r) (ha : confW a w = true) (hb : confB b r.fields = true) (e : Expr) : goodE e = true → kindE a b e = 1 → ∀ t, evE w r (pushE e t) = turnV t (evE w r e) := by
  induction e using Expr.ind with
  | h k n nm ps ih =>
    intro hg hk t
    have hS : ∀ x, goodE x = true → kindE a b x = 1 → soundE 1 (evE w r x) := fun x h1 h2 => by have := sound_all ha hb x h1 (by omega); rwa [h2] at this
    rcases push_cases hg hk with ⟨rfl, x, rfl, hx1, hx2⟩ | ⟨h14, x, y, rfl, ⟨hx1, hx2⟩, hy1, hy2⟩ | ho
    · have hx := hS x hx1 hx2
      rw [push_13, ih x (by simp) hx1 hx2, evE_1, node_not w r n nm hx]
      cases t
      · rfl
      · exact (notV_not (evE_ok hr x hx1) hx).symm
    · have hx := hS x hx1 hx2
      have hy := hS y hy1 hy2
      have ho := evE_ok hr x hx1
      have ix := ih x (by simp) hx1 hx2 t
      have iy := ih y (by simp) hy1 hy2 t
      have tx := sound_turn hx t
      have ty := sound_turn hy t
      rw [← ix] at tx
      rw [← iy] at ty
      rcases h14 with rfl | rfl
      · rw [push_14, evE_2, evE_2, node_and w r n nm hx hy]
        cases t
        · rw [show (if false = true then (15 : Int) else 14) = 14 from rfl, node_and w r n nm tx ty, ix, iy]; rfl
        · rw [show (if true = true then (15 : Int) else 14) = 15 from rfl, node_or w r n nm tx ty, ix, iy]; exact morgan_and ho hx
      · rw [push_15, evE_2, evE_2, node_or w r n nm hx hy]
        cases t
        · rw [show (if false = true then (14 : Int) else 15) = 15 from rfl, node_or w r n nm tx ty, ix, iy]; rfl
        · rw [show (if true = true then (14 : Int) else 15) = 14 from rfl, node_and w r n nm tx ty, ix, iy]; exact morgan_or ho hx
    · rw [push_o ho]
      cases t
      · rfl
      · rw [if_pos rfl, evE_1, node_not w r 0 [] (hS _ hg hk)]; rfl
theorem push_kind {a b : List Kinded} (e : Expr) : goodE e = true → kindE a b e = 1 → ∀ t, kindE a b (pushE e t) = 1 := by
  induction e using Expr.ind with
  | h k n nm ps ih =>
    intro hg hk t
    rcases push_cases hg hk with ⟨rfl, x, rfl, hx1, hx2⟩ | ⟨h14, x, y, rfl, ⟨hx1, hx2⟩, hy1, hy2⟩ | ho
    · rw [push_13]; exact ih x (by simp) hx1 hx2 _
    · have ix := ih x (by simp) hx1 hx2 t
      have iy := ih y (by simp) hy1 hy2 t
      rcases h14 with rfl | rfl
      · rw [push_14, kindE_2, ix, iy]; cases t <;> rfl
      · rw [push_15, kindE_2, ix, iy]; cases t <;> rfl
    · rw [push_o ho]
      cases t
      · exact hk
      · rw [if_pos rfl, kindE_1, hk]; rfl
theorem push_idem {a b : List Kinded} (e : Expr) : goodE e = true → kindE a b e = 1 → ∀ t, pushE (pushE e t) false = pushE e t := by
  induction e using Expr.ind with
  | h k n nm ps ih =>
    intro hg hk t
    rcases push_cases hg hk with ⟨rfl, x, rfl, hx1, hx2⟩ | ⟨h14, x, y, rfl, ⟨hx1, hx2⟩, hy1, hy2⟩ | ho
    · rw [push_13]; exact ih x (by simp) hx1 hx2 _
    · have ix := ih x (by simp) hx1 hx2 t
      have iy := ih y (by simp) hy1 hy2 t
      rcases h14 with rfl | rfl
      · rw [push_14]; cases t
        · rw [show (if false = true then (15 : Int) else 14) = 14 from rfl, push_14, ix, iy]; rfl
        · rw [show (if true = true then (15 : Int) else 14) = 15 from rfl, push_15, ix, iy]; rfl
      · rw [push_15]; cases t
        · rw [show (if false = true then (14 : Int) else 15) = 15 from rfl, push_15, ix, iy]; rfl
        · rw [show (if true = true then (14 : Int) else 15) = 14 from rfl, push_14, ix, iy]; rfl
    · rw [push_o ho]
      cases t
      · rw [if_neg (by simp), push_o ho]; rfl
      · rw [if_pos rfl, push_13, push_o ho]; rfl
end Go.Proofs.Ytdbakncnhmphpaa
