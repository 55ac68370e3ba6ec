/- Walks of functions of the cut by the abstract logic, and what they compute. Filled by a program of mine from a template. -/
import Derived.Test.YtaolcbhncnpldaaGreatDoorTQL
import Derived.Test.YtaolcbhncnpldaaGreatDoorTN
namespace Go.Proofs.YtaolcbhncnpldaaGreatDoor
open Go Go.AL
set_option linter.unusedSimpArgs false
set_option linter.unusedVariables false
/-! ### Reading an expression -/
def dlm (b : UInt8) : Bool := b == 32 || (b == 40 || b == 41)
/-- The word at the head of a text, and what is behind it. -/
def wd (s : List UInt8) : List UInt8 := s.takeWhile fun b => !dlm b
def rs (s : List UInt8) : List UInt8 := s.dropWhile fun b => !dlm b
def dlmd (r : List UInt8) : Prop := ∀ b t, r = b :: t → dlm b = true
theorem wd_app {w r : List UInt8} (h : ∀ b ∈ w, dlm b = false) (hr : dlmd r) : wd (w ++ r) = w ∧ rs (w ++ r) = r := by
  induction w with
  | nil =>
    cases r with
    | nil => exact ⟨rfl, rfl⟩
    | cons b t => simp [wd, rs, hr b t rfl]
  | cons x w ih =>
    have hx := h x (by simp)
    have := ih fun b hb => h b (by simp [hb])
    simp only [wd, rs, List.cons_append] at this ⊢
    rw [List.takeWhile_cons_of_pos (by simp [hx]), List.dropWhile_cons_of_pos (by simp [hx]), this.1, this.2]
    exact ⟨rfl, rfl⟩
theorem wd_rs (s : List UInt8) : wd s ++ rs s = s := List.takeWhile_append_dropWhile
theorem rs_dlmd (s : List UInt8) : dlmd (rs s) := fun b t h => by
  have : ∀ l : List UInt8, ∀ b t, l.dropWhile (fun b => !dlm b) = b :: t → dlm b = true := by
    intro l
    induction l with
    | nil => intro b t h; simp at h
    | cons x l ih =>
      intro b t h
      by_cases hx : dlm x = true
      · rw [List.dropWhile_cons_of_neg (by simp [hx])] at h
        simp only [List.cons.injEq] at h
        rw [← h.1]; exact hx
      · rw [List.dropWhile_cons_of_pos (by simpa using hx)] at h
        exact ih b t h
  exact this s b t h
open Classical in
/-- The kind that a word names. -/
noncomputable def kindOf (w : List UInt8) : Option Int := if h : ∃ k : Int, (7 ≤ k ∧ k ≤ 15) ∧ wordT k = w then some h.choose else none
theorem kindOf_word {k : Int} (h : 7 ≤ k ∧ k ≤ 15) : kindOf (wordT k) = some k := by
  have hx : ∃ j : Int, (7 ≤ j ∧ j ≤ 15) ∧ wordT j = wordT k := ⟨k, h, rfl⟩
  unfold kindOf
  rw [dif_pos hx]
  have := hx.choose_spec
  rw [wordT_inj (by omega) (by omega) this.2]
theorem kindOf_none {w : List UInt8} (h : ∀ k : Int, 7 ≤ k ∧ k ≤ 15 → wordT k ≠ w) : kindOf w = none := by
  unfold kindOf
  rw [dif_neg]
  rintro ⟨k, h1, h2⟩
  exact h k h1 h2
theorem kindOf_some {w : List UInt8} {k : Int} (h : kindOf w = some k) : (7 ≤ k ∧ k ≤ 15) ∧ wordT k = w := by
  unfold kindOf at h
  split at h
  · rename_i hx
    rw [← Option.some.inj h]; exact hx.choose_spec
  · cases h
/-- So many parts, each behind a blank. -/
def partsX (f : List UInt8 → Option (Expr × List UInt8)) : Nat → List UInt8 → Option (List Expr × List UInt8)
  | 0, s => some ([], s)
  | n + 1, s => if s.head? = some 32 then (match f s.tail with
    | some (e, r) => (match partsX f n r with
      | some (es, r') => some (e :: es, r')
      | none => none)
    | none => none) else none
/-- A name behind a blank, where the kind has one. -/
def nameX (k : Int) (s : List UInt8) : Option (List UInt8 × List UInt8) := if namedB k = true then (if s.head? = some 32 then some (wd s.tail, rs s.tail) else none) else some ([], s)
noncomputable def nodeX (f : List UInt8 → Option (Expr × List UInt8)) (t : List UInt8) : Option (Expr × List UInt8) :=
  match kindOf (wd t) with
  | none => none
  | some k => match partsX f (partsN k).toNat (rs t) with
    | none => none
    | some (ps, r) => match nameX k r with
      | none => none
      | some (nm, q) => if q.head? = some 41 then some (.mk k 0 nm ps, q.tail) else none
/-- What a word is, for the program. -/
noncomputable def leafX (w : List UInt8) : Option Expr :=
  if w = wordT 4 then some (.mk 4 0 [] []) else if w = wordT 5 then some (.mk 5 0 [] []) else if w = wordT 6 then some (.mk 6 0 [] []) else
  match readV w with
  | some (k, n) => some (.mk k n [] [])
  | none => none
/-- What the program reads. -/
noncomputable def readX : Nat → List UInt8 → Option (Expr × List UInt8)
  | 0, _ => none
  | d + 1, s => if s.head? = some 40 then nodeX (readX d) s.tail else (leafX (wd s)).map fun e => (e, rs s)
/-- What a word is, for the reference. -/
noncomputable def atomY (w : List UInt8) : Expr :=
  if w = [110, 111] then .mk 1 0 [] [] else if w = [121, 101, 115] then .mk 1 1 [] [] else
  if w = wordT 4 then .mk 4 0 [] [] else if w = wordT 5 then .mk 5 0 [] [] else if w = wordT 6 then .mk 6 0 [] [] else
  if w.head? = some 35 then .mk 3 (l5N w.tail) [] [] else .mk 2 (l5N w) [] []
/-- What the reference reads. -/
noncomputable def readY : Nat → List UInt8 → Option (Expr × List UInt8)
  | 0, _ => none
  | d + 1, s => if s.head? = some 40 then nodeX (readY d) s.tail else if wd s = [] then none else some (atomY (wd s), rs s)
/-! ### What is written is read -/
theorem partsX_text {f : List UInt8 → Option (Expr × List UInt8)} : ∀ (ps : List Expr), (∀ e ∈ ps, ∀ r, dlmd r → f (exprT e ++ r) = some (e, r)) → ∀ r, dlmd r → partsX f ps.length (exprTs ps ++ r) = some (ps, r)
  | [], _, r, _ => by simp [partsX, exprTs]
  | e :: ps, h, r, hr => by
    have h1 := partsX_text ps (fun x hx => h x (by simp [hx])) r hr
    have hd : dlmd (exprTs ps ++ r) := by
      cases ps with
      | nil => simpa [exprTs] using hr
      | cons x ps => intro b t hb; simp only [exprTs, List.cons_append, List.cons.injEq] at hb; rw [← hb.1]; rfl
    have h2 := h e (by simp) (exprTs ps ++ r) hd
    simp only [exprTs, List.cons_append, List.append_assoc, List.length_cons, partsX, List.head?_cons, List.tail_cons, if_true, h2, h1]
theorem low_dlm {w : List UInt8} (h : ∀ b ∈ w, 97 ≤ b ∧ b ≤ 122) : ∀ b ∈ w, dlm b = false := fun b hb => by
  have h1 := (h b hb).1
  cases hd : dlm b
  · rfl
  · simp only [dlm, Bool.or_eq_true, beq_iff_eq] at hd
    rcases hd with rfl | rfl | rfl <;> revert h1 <;> decide
theorem name_dlm {w : List UInt8} (h : nameB w = true) : ∀ b ∈ w, dlm b = false := low_dlm fun b hb => by
  have := (nameB_bytes h).1 b hb
  exact ⟨UInt8.le_iff_toNat_le.2 this.1, UInt8.le_iff_toNat_le.2 this.2⟩
theorem tru_dlm (n : Int) : ∀ b ∈ truT n, dlm b = false := by unfold truT; split <;> simp [dlm]
theorem dec_dlm {n : Int} (h : 0 ≤ n ∧ n ≤ 99) : ∀ b ∈ decT n, dlm b = false := fun b hb => by
  have h1 := decT_bytes h b hb
  cases hd : dlm b
  · rfl
  · simp only [dlm, Bool.or_eq_true, beq_iff_eq] at hd
    rcases hd with rfl | rfl | rfl <;> revert h1 <;> decide
theorem nodeX_text {f : List UInt8 → Option (Expr × List UInt8)} {k n : Int} {nm : List UInt8} {ps : List Expr} (hn : nodeB k n nm ps.length = true) (hk : 7 ≤ k) (hf : ∀ e ∈ ps, ∀ r, dlmd r → f (exprT e ++ r) = some (e, r)) (r : List UInt8) :
    nodeX f (wordT k ++ (exprTs ps ++ ((if nm = [] then [] else 32 :: nm) ++ 41 :: r))) = some (.mk k n nm ps, r) := by
  obtain ⟨h1, h2, h3, h4, h5⟩ := nodeB_more hn
  have hn0 : n = 0 := by unfold greatN at h2; rw [if_neg (by omega), if_neg (by omega), if_neg (by omega)] at h2; omega
  have hd1 : dlmd ((if nm = [] then [] else 32 :: nm) ++ 41 :: r) := by
    intro b t hb
    split at hb
    · simp only [List.nil_append, List.cons.injEq] at hb; rw [← hb.1]; rfl
    · simp only [List.cons_append, List.cons.injEq] at hb; rw [← hb.1]; rfl
  have hd2 : dlmd (exprTs ps ++ ((if nm = [] then [] else 32 :: nm) ++ 41 :: r)) := by
    cases ps with
    | nil => simpa [exprTs] using hd1
    | cons x ps => intro b t hb; simp only [exprTs, List.cons_append, List.cons.injEq] at hb; rw [← hb.1]; rfl
  obtain ⟨w1, w2⟩ := wd_app (low_dlm (wordT_bytes (a := k) (by omega))) hd2
  have hp := partsX_text ps hf _ hd1
  have hl : (partsN k).toNat = ps.length := by omega
  unfold nodeX
  rw [w1, kindOf_word (by omega)]
  dsimp only
  rw [w2, hl, hp]
  dsimp only
  unfold nameX
  by_cases hm : nm = []
  · have hb : namedB k = false := by cases hb : namedB k; rfl; exact absurd hm (h4.1 hb)
    simp [hm, hb, hn0]
  · have hb : namedB k = true := h4.2 hm
    obtain ⟨v1, v2⟩ := wd_app (name_dlm (h5 hm)) (r := 41 :: r) (fun b t hb => by simp only [List.cons.injEq] at hb; rw [← hb.1]; rfl)
    rw [if_neg hm, if_pos hb]
    simp only [List.cons_append, List.head?_cons, List.tail_cons, if_true, v1, v2, hn0]
theorem leafT {k n : Int} {nm : List UInt8} {ps : List Expr} (hn : nodeB k n nm ps.length = true) (hk : k ≤ 6) : exprT (.mk k n nm ps) = if k ≤ 3 then valT k n else wordT k := by
  obtain ⟨_, _, h⟩ := leaf_cases hn hk
  rw [exprT_mk]
  rcases h with ⟨hv, h3⟩ | ⟨h, _⟩
  · have h9 := valB_k hv
    rw [if_pos h3]
    rcases h9 with ⟨rfl, g⟩ | ⟨rfl, g⟩ | ⟨rfl, g⟩
    · rw [valT_1 g]; rfl
    · rw [valT_2 g]; rfl
    · rw [valT_3 (by omega)]; rfl
  · rw [if_neg (by omega : ¬(k ≤ 3)), if_neg (by omega), if_neg (by omega), if_neg (by omega), if_pos h]
theorem leaf_dlm {k n : Int} {nm : List UInt8} {ps : List Expr} (hn : nodeB k n nm ps.length = true) (hk : k ≤ 6) : (∀ b ∈ exprT (.mk k n nm ps), dlm b = false) ∧ exprT (.mk k n nm ps) ≠ [] := by
  obtain ⟨_, _, h⟩ := leaf_cases hn hk
  rw [leafT hn hk]
  rcases h with ⟨hv, h3⟩ | ⟨h, _⟩
  · rw [if_pos h3]
    refine ⟨?_, valT_nn hv⟩
    rcases valB_k hv with ⟨rfl, g⟩ | ⟨rfl, g⟩ | ⟨rfl, g⟩
    · rw [valT_1 g]; exact tru_dlm n
    · rw [valT_2 g]; exact dec_dlm g
    · rw [valT_3 (by omega)]
      intro b hb
      rcases List.mem_cons.1 hb with rfl | hb
      · rfl
      · exact dec_dlm (by omega) b hb
  · rw [if_neg (by omega)]
    exact ⟨low_dlm (wordT_bytes (by omega)), wordT_ne (by omega)⟩
theorem leafX_text {k n : Int} {nm : List UInt8} {ps : List Expr} (hn : nodeB k n nm ps.length = true) (hk : k ≤ 6) : leafX (exprT (.mk k n nm ps)) = some (.mk k n nm ps) := by
  obtain ⟨hl, rfl, h⟩ := leaf_cases hn hk
  obtain rfl := List.length_eq_zero_iff.1 hl
  rw [leafT hn hk]
  unfold leafX
  rcases h with ⟨hv, h3⟩ | ⟨h, rfl⟩
  · rw [if_pos h3, if_neg fun e => wordT_valT (a := 4) (by omega) hv e.symm, if_neg fun e => wordT_valT (a := 5) (by omega) hv e.symm, if_neg fun e => wordT_valT (a := 6) (by omega) hv e.symm, readV_text hv]
  · rw [if_neg (by omega : ¬(k ≤ 3))]
    rcases h with rfl | rfl | rfl
    · rw [if_pos rfl]
    · rw [if_neg (by decide +kernel), if_pos rfl]
    · rw [if_neg (by decide +kernel), if_neg (by decide +kernel), if_pos rfl]
theorem atomY_text {k n : Int} {nm : List UInt8} {ps : List Expr} (hn : nodeB k n nm ps.length = true) (hk : k ≤ 6) : atomY (exprT (.mk k n nm ps)) = .mk k n nm ps := by
  obtain ⟨hl, rfl, h⟩ := leaf_cases hn hk
  obtain rfl := List.length_eq_zero_iff.1 hl
  rw [leafT hn hk]
  have e0 : valT 1 0 = [110, 111] := by decide
  have e1 : valT 1 1 = [121, 101, 115] := by decide
  have b0 : valB 1 0 100 = true := by decide
  have b1 : valB 1 1 100 = true := by decide
  rcases h with ⟨hv, h3⟩ | ⟨h, rfl⟩
  · rw [if_pos h3]
    have hw : ∀ a : Int, 4 ≤ a ∧ a ≤ 15 → ¬(valT k n = wordT a) := fun a ha e => wordT_valT ha hv e.symm
    have hm : k ≠ 1 → ¬(valT k n = [110, 111]) ∧ ¬(valT k n = [121, 101, 115]) := fun hk1 => ⟨fun e => hk1 (valT_inj hv b0 (e.trans e0.symm)).1, fun e => hk1 (valT_inj hv b1 (e.trans e1.symm)).1⟩
    unfold atomY
    rcases valB_k hv with ⟨rfl, g⟩ | ⟨rfl, g⟩ | ⟨rfl, g⟩
    · rcases (by omega : n = 0 ∨ n = 1) with rfl | rfl
      · rw [if_pos e0]
      · rw [if_neg (by rw [e1]; decide), if_pos e1]
    · rw [if_neg (hm (by decide)).1, if_neg (hm (by decide)).2, if_neg (hw 4 (by omega)), if_neg (hw 5 (by omega)), if_neg (hw 6 (by omega)), valT_2 g]
      obtain ⟨b, l, hbl⟩ := List.exists_cons_of_ne_nil (decT_ne g)
      have hb := head_dec g hbl
      rw [if_neg, l5N_text g]
      rw [hbl, List.head?_cons]
      intro e
      rw [Option.some.inj e] at hb
      exact absurd hb (by decide)
    · rw [if_neg (hm (by decide)).1, if_neg (hm (by decide)).2, if_neg (hw 4 (by omega)), if_neg (hw 5 (by omega)), if_neg (hw 6 (by omega)), valT_3 (by omega), List.head?_cons, if_pos rfl, List.tail_cons, l5N_text (by omega)]
  · rw [if_neg (by omega : ¬(k ≤ 3))]
    have hw : ∀ a : Int, 4 ≤ a ∧ a ≤ 15 → ¬(wordT a = [110, 111]) ∧ ¬(wordT a = [121, 101, 115]) := fun a ha => ⟨fun e => wordT_valT ha b0 (e.trans e0.symm), fun e => wordT_valT ha b1 (e.trans e1.symm)⟩
    unfold atomY
    rw [if_neg (hw k (by omega)).1, if_neg (hw k (by omega)).2]
    rcases h with rfl | rfl | rfl
    · rw [if_pos rfl]
    · rw [if_neg (by decide +kernel), if_pos rfl]
    · rw [if_neg (by decide +kernel), if_neg (by decide +kernel), if_pos rfl]
theorem nodeT {k n : Int} {nm : List UInt8} {ps : List Expr} (hk : 7 ≤ k) (r : List UInt8) : exprT (.mk k n nm ps) ++ r = 40 :: (wordT k ++ (exprTs ps ++ ((if nm = [] then [] else 32 :: nm) ++ 41 :: r))) := by
  rw [exprT_mk, if_neg (by omega), if_neg (by omega), if_neg (by omega), if_neg (by omega)]
  simp
theorem leaf_head {w r : List UInt8} (h1 : ∀ b ∈ w, dlm b = false) (h2 : w ≠ []) : ¬((w ++ r).head? = some 40) := by
  obtain ⟨b, l, rfl⟩ := List.exists_cons_of_ne_nil h2
  rw [List.cons_append, List.head?_cons]
  intro e
  have := h1 b (by simp)
  rw [Option.some.inj e] at this
  revert this; decide
theorem readX_text : ∀ (d : Nat) (e : Expr), goodE e = true → depE e ≤ d → ∀ r, dlmd r → readX d (exprT e ++ r) = some (e, r)
  | 0, e, _, hd, _, _ => by have := depE_pos e; omega
  | d + 1, .mk k n nm ps, hg, hd, r, hr => by
    rw [goodE_mk, Bool.and_eq_true] at hg
    rw [depE_mk] at hd
    by_cases hk : 7 ≤ k
    · rw [nodeT hk, readX, List.head?_cons, if_pos rfl, List.tail_cons]
      exact nodeX_text hg.1 hk (fun e he r hr => readX_text d e (goodEs_mem hg.2 e he) (by have := depEs_mem (ps := ps) e he; omega) r hr) r
    · obtain ⟨h1, h2⟩ := leaf_dlm hg.1 (by omega)
      obtain ⟨w1, w2⟩ := wd_app h1 hr
      have hl := leafX_text hg.1 (by omega)
      rw [readX, if_neg (leaf_head h1 h2), w1, w2, hl]; rfl
theorem readY_text : ∀ (d : Nat) (e : Expr), goodE e = true → depE e ≤ d → ∀ r, dlmd r → readY d (exprT e ++ r) = some (e, r)
  | 0, e, _, hd, _, _ => by have := depE_pos e; omega
  | d + 1, .mk k n nm ps, hg, hd, r, hr => by
    rw [goodE_mk, Bool.and_eq_true] at hg
    rw [depE_mk] at hd
    by_cases hk : 7 ≤ k
    · rw [nodeT hk, readY, List.head?_cons, if_pos rfl, List.tail_cons]
      exact nodeX_text hg.1 hk (fun e he r hr => readY_text d e (goodEs_mem hg.2 e he) (by have := depEs_mem (ps := ps) e he; omega) r hr) r
    · obtain ⟨h1, h2⟩ := leaf_dlm hg.1 (by omega)
      obtain ⟨w1, w2⟩ := wd_app h1 hr
      have hl := atomY_text hg.1 (by omega)
      rw [readY, if_neg (leaf_head h1 h2), w1, w2, hl, if_neg h2]
theorem dlmd_nil : dlmd [] := fun b t h => by cases h
/-- Texts of right expressions are of one alone. -/
theorem exprT_inj {a b : Expr} (ha : goodE a = true) (hb : goodE b = true) (h : exprT a = exprT b) : a = b := by
  have h1 := readX_text (max (depE a) (depE b)) a ha (by omega) [] dlmd_nil
  have h2 := readX_text (max (depE a) (depE b)) b hb (by omega) [] dlmd_nil
  rw [h, h2] at h1
  simpa using h1.symm
/-! ### What is read is small -/
theorem partsX_cnt {f : List UInt8 → Option (Expr × List UInt8)} {B : Nat} (hf : ∀ s e r, f s = some (e, r) → cntE e ≤ B) : ∀ (n : Nat) (s : List UInt8) ps r, partsX f n s = some (ps, r) → ps.length = n ∧ cntEs ps ≤ n * B
  | 0, s, ps, r, h => by simp only [partsX, Option.some.injEq, Prod.mk.injEq] at h; rw [← h.1]; simp [cntEs]
  | n + 1, s, ps, r, h => by
    rw [partsX] at h
    split at h
    · cases he : f s.tail with
      | none => rw [he] at h; cases h
      | some p =>
        obtain ⟨e, q⟩ := p
        rw [he] at h
        dsimp only at h
        cases hes : partsX f n q with
        | none => rw [hes] at h; cases h
        | some p =>
          obtain ⟨es, q'⟩ := p
          rw [hes] at h
          simp only [Option.some.injEq, Prod.mk.injEq] at h
          have h1 := partsX_cnt hf n q es q' hes
          have h2 := hf _ _ _ he
          rw [← h.1]
          simp only [List.length_cons, cntEs]
          have e : (n + 1) * B = n * B + B := Nat.succ_mul n B
          omega
    · cases h
theorem nodeX_cnt {f : List UInt8 → Option (Expr × List UInt8)} {B : Nat} (hf : ∀ s e r, f s = some (e, r) → cntE e ≤ B) {t : List UInt8} {e : Expr} {r : List UInt8} (h : nodeX f t = some (e, r)) : cntE e ≤ 1 + 2 * B := by
  unfold nodeX at h
  cases hk : kindOf (wd t) with
  | none => rw [hk] at h; cases h
  | some k =>
    rw [hk] at h
    dsimp only at h
    cases hp : partsX f (partsN k).toNat (rs t) with
    | none => rw [hp] at h; cases h
    | some p =>
      obtain ⟨ps, q⟩ := p
      rw [hp] at h
      dsimp only at h
      cases hn : nameX k q with
      | none => rw [hn] at h; cases h
      | some p =>
        obtain ⟨nm, q'⟩ := p
        rw [hn] at h
        dsimp only at h
        split at h
        · simp only [Option.some.injEq, Prod.mk.injEq] at h
          have h1 := (partsX_cnt hf _ _ _ _ hp).2
          have h2 := partsN_le k
          have h3 : (partsN k).toNat * B ≤ 2 * B := Nat.mul_le_mul_right _ (by omega)
          rw [← h.1, cntE_mk]; omega
        · cases h
def capN : Nat → Nat
  | 0 => 0
  | d + 1 => 1 + 2 * capN d
theorem readY_cnt : ∀ (d : Nat) (s : List UInt8) e r, readY d s = some (e, r) → cntE e ≤ capN d
  | 0, s, e, r, h => by cases h
  | d + 1, s, e, r, h => by
    rw [readY] at h
    split at h
    · exact nodeX_cnt (readY_cnt d) h
    · split at h
      · cases h
      · simp only [Option.some.injEq, Prod.mk.injEq] at h
        have : cntE (atomY (wd s)) = 1 := by
          unfold atomY
          (repeat' split) <;> (rw [cntE_mk]; rfl)
        rw [← h.1, this]; simp only [capN]; omega
end Go.Proofs.YtaolcbhncnpldaaGreatDoor
