/- Walks of functions of the cut by the abstract logic, and what they compute. Filled by a program of mine from a template. -/
import Derived.Test.YtpoahajgaaoghaaT3
namespace Go.Proofs.Ytpoahajgaaoghaa
open Go Go.AL
set_option linter.unusedSimpArgs false
set_option linter.unusedVariables false

/-! ### Which roles a role has: plain -/
def Tb (a : List Bool) (i : Nat) : Prop := a.getD i false = true
instance (a : List Bool) (i : Nat) : Decidable (Tb a i) := inferInstanceAs (Decidable (_ = _))
theorem Tb_lt {a : List Bool} {i : Nat} (h : Tb a i) : i < a.length := by
  unfold Tb at h
  rcases Nat.lt_or_ge i a.length with h1 | h1
  · exact h1
  · simp [List.getD, List.getElem?_eq_none h1] at h
theorem Tb_set {a : List Bool} {i j : Nat} : Tb (a.set j true) i ↔ Tb a i ∨ (i = j ∧ j < a.length) := by
  unfold Tb
  simp only [List.getD, List.getElem?_set]
  by_cases h : j = i
  · subst h
    by_cases h2 : j < a.length
    · simp [h2]
    · simp [h2, List.getElem?_eq_none (Nat.le_of_not_lt h2)]
  · have h' : ¬ i = j := fun e => h e.symm
    simp [h, h']
def setAll (a : List Bool) : List Int → List Bool
  | [] => a
  | j :: js => setAll (a.set j.toNat true) js
theorem setAll_len : ∀ (js : List Int) (a : List Bool), (setAll a js).length = a.length
  | [], a => rfl
  | j :: js, a => by rw [setAll, setAll_len js]; simp
theorem Tb_setAll {i : Nat} : ∀ (js : List Int) (a : List Bool), Tb (setAll a js) i ↔ Tb a i ∨ (i < a.length ∧ ∃ h ∈ js, i = h.toNat)
  | [], a => by simp [setAll]
  | j :: js, a => by
    rw [setAll, Tb_setAll js, Tb_set]
    simp only [List.length_set, List.mem_cons, exists_eq_or_imp]
    constructor
    · rintro ((h | ⟨rfl, h⟩) | ⟨h1, h2⟩)
      · exact .inl h
      · exact .inr ⟨h, .inl rfl⟩
      · exact .inr ⟨h1, .inr h2⟩
    · rintro (h | ⟨h1, rfl | h2⟩)
      · exact .inl (.inl h)
      · exact .inl (.inr ⟨rfl, h1⟩)
      · exact .inr ⟨h1, h2⟩
def round1 (a : List Bool) (k : Nat) (r : Role) : List Bool := if a.getD k false then setAll a r.has else a
def roundL (a : List Bool) (k : Nat) : List Role → List Bool
  | [] => a
  | r :: rs => roundL (round1 a k r) (k + 1) rs
def iterL (l : List Role) : Nat → List Bool → List Bool
  | 0, a => a
  | m + 1, a => iterL l m (roundL a 0 l)
def startL (l : List Role) (n : Nat) : List Bool := (List.replicate l.length false).set n true
def reachL (l : List Role) (n : Nat) : List Bool := iterL l l.length (startL l n)

theorem round1_len (a : List Bool) (k : Nat) (r : Role) : (round1 a k r).length = a.length := by
  unfold round1; split
  · exact setAll_len _ _
  · rfl
theorem roundL_len : ∀ (rs : List Role) (a : List Bool) (k : Nat), (roundL a k rs).length = a.length
  | [], a, k => rfl
  | r :: rs, a, k => by rw [roundL, roundL_len rs, round1_len]
theorem iterL_len (l : List Role) : ∀ (m : Nat) (a : List Bool), (iterL l m a).length = a.length
  | 0, a => rfl
  | m + 1, a => by rw [iterL, iterL_len l m, roundL_len]
theorem startL_len (l : List Role) (n : Nat) : (startL l n).length = l.length := by simp [startL]
theorem reachL_len (l : List Role) (n : Nat) : (reachL l n).length = l.length := by rw [reachL, iterL_len, startL_len]

/-- Which roles a role has. -/
inductive Reach (l : List Role) (n : Nat) : Nat → Prop
  | refl : Reach l n n
  | step {k j : Nat} {r : Role} {h : Int} : Reach l n k → l[k]? = some r → h ∈ r.has → h.toNat = j → Reach l n j
theorem Reach.trans {l : List Role} {a b c : Nat} (h : Reach l a b) (h' : Reach l b c) : Reach l a c := by
  induction h' with
  | refl => exact h
  | step _ h2 h3 h4 ih => exact .step ih h2 h3 h4

theorem round1_mono {a : List Bool} {k : Nat} {r : Role} {i : Nat} (h : Tb a i) : Tb (round1 a k r) i := by
  unfold round1; split
  · exact (Tb_setAll _ _).2 (.inl h)
  · exact h
theorem roundL_mono : ∀ (rs : List Role) (a : List Bool) (k i : Nat), Tb a i → Tb (roundL a k rs) i
  | [], _, _, _, h => h
  | r :: rs, a, k, i, h => roundL_mono rs _ _ i (round1_mono h)
theorem iterL_mono (l : List Role) : ∀ (m : Nat) (a : List Bool) (i : Nat), Tb a i → Tb (iterL l m a) i
  | 0, _, _, h => h
  | m + 1, a, i, h => iterL_mono l m _ i (roundL_mono l a 0 i h)
/-- What a round adds. -/
theorem roundL_add : ∀ (rs : List Role) (a : List Bool) (k0 j : Nat) (r : Role) (h : Int), rs[j]? = some r → Tb a (k0 + j) → h ∈ r.has → h.toNat < a.length → Tb (roundL a k0 rs) h.toNat
  | [], a, k0, j, r, h, hj, _, _, _ => by simp at hj
  | x :: rs, a, k0, 0, r, h, hj, ht, hh, hl => by
    simp at hj; subst hj
    refine roundL_mono rs _ _ _ ?_
    have ht' : a.getD k0 false = true := ht
    unfold round1
    rw [if_pos ht']
    exact (Tb_setAll _ _).2 (.inr ⟨hl, h, hh, rfl⟩)
  | x :: rs, a, k0, j + 1, r, h, hj, ht, hh, hl => by
    refine roundL_add rs _ (k0 + 1) j r h (by simpa using hj) ?_ hh (by rw [round1_len]; exact hl)
    rw [show k0 + 1 + j = k0 + (j + 1) by omega]
    exact round1_mono ht
theorem roundL_sound {l : List Role} {n : Nat} : ∀ (rs : List Role) (a : List Bool) (k : Nat), l.drop k = rs → (∀ i, Tb a i → Reach l n i) → ∀ i, Tb (roundL a k rs) i → Reach l n i
  | [], a, k, _, h, i, hi => h i hi
  | r :: rs, a, k, hd, h, i, hi => by
    refine roundL_sound rs (round1 a k r) (k + 1) ?_ ?_ i hi
    · rw [← List.drop_drop, hd]; rfl
    · intro i hi
      unfold round1 at hi
      split at hi
      · rename_i hk
        rcases (Tb_setAll _ _).1 hi with h1 | ⟨_, x, hx, rfl⟩
        · exact h i h1
        · refine .step (h k hk) ?_ hx rfl
          have := congrArg (fun q => q[0]?) hd
          simpa using this
      · exact h i hi
theorem iterL_sound {l : List Role} {n : Nat} : ∀ (m : Nat) (a : List Bool), (∀ i, Tb a i → Reach l n i) → ∀ i, Tb (iterL l m a) i → Reach l n i
  | 0, _, h => h
  | m + 1, a, h => iterL_sound m _ (roundL_sound l a 0 rfl h)
theorem Tb_ext {a b : List Bool} (hl : a.length = b.length) (h : ∀ i, Tb a i ↔ Tb b i) : a = b := by
  refine List.ext_getElem hl fun i h1 h2 => ?_
  have := h i
  simp only [Tb, List.getD, List.getElem?_eq_getElem h1, List.getElem?_eq_getElem h2, Option.getD_some] at this
  rcases hA : a[i] <;> rcases hB : b[i] <;> simp_all
theorem count_mono : ∀ {a b : List Bool}, a.length = b.length → (∀ i, Tb a i → Tb b i) → a.countP id ≤ b.countP id ∧ (a.countP id = b.countP id → a = b)
  | [], [], _, _ => by simp
  | x :: a, y :: b, hl, h => by
    have ih := count_mono (a := a) (b := b) (by simpa using hl) fun i hi => by have := h (i + 1); simp [Tb] at this ⊢; exact this (by simpa [Tb] using hi)
    have h0 := h 0
    simp only [Tb, List.getD, List.getElem?_cons_zero, Option.getD_some] at h0
    rcases x with _ | _ <;> rcases y with _ | _
    · simp only [List.countP_cons, id]; simp; exact ih
    · simp only [List.countP_cons, id]; simp; have := ih.1; omega
    · simp at h0
    · simp only [List.countP_cons, id]; simp; exact ih
theorem iterL_fix (l : List Role) {a : List Bool} (h : roundL a 0 l = a) : ∀ m, iterL l m a = a
  | 0 => rfl
  | m + 1 => by rw [iterL, h, iterL_fix l h m]
theorem iterL_stable (l : List Role) : ∀ (m : Nat) (a : List Bool), roundL (iterL l m a) 0 l = iterL l m a ∨ a.countP id + m ≤ (iterL l m a).countP id
  | 0, a => .inr (by simp [iterL])
  | m + 1, a => by
    rw [iterL]
    have hc := count_mono (roundL_len l a 0).symm (roundL_mono l a 0)
    by_cases he : a.countP id = (roundL a 0 l).countP id
    · have hf := hc.2 he
      left
      rw [← hf, iterL_fix l hf.symm, ← hf]
    · rcases iterL_stable l m (roundL a 0 l) with h | h
      · exact .inl h
      · right; have := hc.1; omega
theorem reachL_fix {l : List Role} {n : Nat} (hn : n < l.length) : roundL (reachL l n) 0 l = reachL l n := by
  rcases iterL_stable l l.length (startL l n) with h | h
  · exact h
  · exfalso
    have h1 : (reachL l n).countP id ≤ (reachL l n).length := List.countP_le_length
    rw [reachL_len] at h1
    have h2 : 0 < (startL l n).countP id := by
      rw [List.countP_pos_iff]
      refine ⟨true, ?_, rfl⟩
      unfold startL
      exact List.mem_set (by simpa using hn) _
    unfold reachL at h1
    omega
def hasOK (l : List Role) : Prop := ∀ r ∈ l, ∀ h ∈ r.has, 0 ≤ h ∧ h < l.length
theorem reachL_iff {l : List Role} {n : Nat} (hn : n < l.length) (hv : hasOK l) (i : Nat) : Tb (reachL l n) i ↔ Reach l n i := by
  constructor
  · refine iterL_sound _ _ (fun i hi => ?_) i
    rw [startL, Tb_set] at hi
    rcases hi with hi | ⟨rfl, _⟩
    · simp [Tb, List.getD, List.getElem?_replicate] at hi
      split at hi <;> simp at hi
    · exact .refl
  · intro h
    induction h with
    | refl => exact iterL_mono l _ _ _ (by rw [startL, Tb_set]; exact .inr ⟨rfl, by simpa using hn⟩)
    | @step k j r h _ h2 h3 h4 ih =>
      subst h4
      rw [← reachL_fix hn]
      have := hv r (List.mem_of_getElem? h2) h h3
      exact roundL_add l _ 0 k r h h2 (by simpa using ih) h3 (by rw [reachL_len]; omega)

/-! ### The same as a sum of bits -/
def setN : List Bool → Nat
  | [] => 0
  | b :: bs => (if b then 1 else 0) + 2 * setN bs
theorem setN_bit : ∀ (a : List Bool) (i : Nat), (setN a).testBit i = a.getD i false
  | [], i => by simp [setN]
  | b :: a, 0 => by cases b <;> simp [setN, Nat.testBit_zero] <;> omega
  | b :: a, i + 1 => by
    rw [Nat.testBit_succ, setN]
    have : ((if b then 1 else 0) + 2 * setN a) / 2 = setN a := by split <;> omega
    rw [this, setN_bit a i]
    simp
theorem setN_lt : ∀ (a : List Bool), setN a < 2 ^ a.length
  | [] => by simp [setN]
  | b :: a => by have := setN_lt a; rw [setN, List.length_cons, Nat.pow_succ]; split <;> omega
def orAll (s : Nat) : List Int → Nat
  | [] => s
  | h :: hs => orAll (s ||| 2 ^ h.toNat) hs
def orGo (S : Nat) (s : Nat) (i : Nat) : List Role → Nat
  | [] => s
  | r :: rs => orGo S (if S.testBit i then orAll s r.has else s) (i + 1) rs
theorem orAll_bit (x : Nat) : ∀ (hs : List Int) (s : Nat), (orAll s hs).testBit x = true ↔ s.testBit x = true ∨ ∃ h ∈ hs, x = h.toNat
  | [], s => by simp [orAll]
  | h :: hs, s => by
    rw [orAll, orAll_bit x hs, Nat.testBit_or, Nat.testBit_two_pow]
    simp only [Bool.or_eq_true, decide_eq_true_eq, List.mem_cons, exists_eq_or_imp]
    constructor
    · rintro ((h | h) | h)
      · exact .inl h
      · exact .inr (.inl h.symm)
      · exact .inr (.inr h)
    · rintro (h | h | h)
      · exact .inl (.inl h)
      · exact .inl (.inr h.symm)
      · exact .inr h
theorem orGo_bit (S x : Nat) : ∀ (rs : List Role) (i s : Nat), (orGo S s i rs).testBit x = true ↔ s.testBit x = true ∨ ∃ j r, rs[j]? = some r ∧ S.testBit (i + j) = true ∧ ∃ h ∈ r.has, x = h.toNat
  | [], i, s => by simp [orGo]
  | r :: rs, i, s => by
    rw [orGo, orGo_bit S x rs]
    constructor
    · rintro (h | ⟨j, y, h1, h2, h3⟩)
      · split at h
        · rename_i hb
          rcases (orAll_bit x _ _).1 h with h | h
          · exact .inl h
          · exact .inr ⟨0, r, rfl, hb, h⟩
        · exact .inl h
      · exact .inr ⟨j + 1, y, by simpa using h1, by rwa [show i + (j + 1) = i + 1 + j by omega], h3⟩
    · rintro (h | ⟨j, y, h1, h2, h3⟩)
      · left
        split
        · exact (orAll_bit x _ _).2 (.inl h)
        · exact h
      · cases j with
        | zero =>
          simp at h1; subst h1
          left
          rw [if_pos (by simpa using h2)]
          exact (orAll_bit x _ _).2 (.inr h3)
        | succ j => exact .inr ⟨j, y, by simpa using h1, by rwa [show i + 1 + j = i + (j + 1) by omega], h3⟩
theorem bit_lt {s m : Nat} (h : ∀ x, s.testBit x = true → x < m) : s < 2 ^ m := Nat.lt_pow_two_of_testBit _ fun i hi => by
  by_cases hb : s.testBit i = true
  · exact absurd (h i hb) (by omega)
  · simpa using hb
/-- What is known of the set while it grows. -/
def okS (l : List Role) (n S : Nat) : Prop := S.testBit n = true ∧ ∀ x, S.testBit x = true → Reach l n x
theorem Reach.lt {l : List Role} (hv : hasOK l) {n x : Nat} (hn : n < l.length) (h : Reach l n x) : x < l.length := by
  cases h with
  | refl => exact hn
  | step _ h2 h3 h4 => have := hv _ (List.mem_of_getElem? h2) _ h3; omega
theorem okS_lt {l : List Role} {n S : Nat} (hv : hasOK l) (hn : n < l.length) (h8 : l.length ≤ 8) (h : okS l n S) : S < 256 := by
  have := bit_lt (s := S) (m := 8) fun x hx => by have := (h.2 x hx).lt hv hn; omega
  simpa using this
theorem okS_next {l : List Role} {n S : Nat} (h : okS l n S) : okS l n (orGo S S 0 l) := by
  refine ⟨(orGo_bit _ _ _ _ _).2 (.inl h.1), fun x hx => ?_⟩
  rcases (orGo_bit _ _ _ _ _).1 hx with h1 | ⟨j, r, h1, h2, y, h3, h4⟩
  · exact h.2 x h1
  · exact .step (h.2 j (by simpa using h2)) h1 h3 h4.symm
theorem le_of_bits {a b : Nat} (h : ∀ x, a.testBit x = true → b.testBit x = true) : a ≤ b := by
  have e : a ||| b = b := Nat.eq_of_testBit_eq fun i => by
    rw [Nat.testBit_or]
    cases ha : a.testBit i
    · simp
    · simp [h i ha]
  rw [← e]; exact Nat.left_le_or
theorem orGo_ge (l : List Role) (S : Nat) : S ≤ orGo S S 0 l := le_of_bits fun x hx => (orGo_bit _ _ _ _ _).2 (.inl hx)
theorem okS_end {l : List Role} {n S : Nat} (hv : hasOK l) (hn : n < l.length) (h : okS l n S) (hf : orGo S S 0 l = S) : S = setN (reachL l n) := by
  refine Nat.eq_of_testBit_eq fun i => ?_
  rw [setN_bit]
  have key : S.testBit i = true ↔ Reach l n i := by
    refine ⟨h.2 i, fun hr => ?_⟩
    induction hr with
    | refl => exact h.1
    | @step k j r y _ h2 h3 h4 ih =>
      rw [← hf]
      exact (orGo_bit _ _ _ _ _).2 (.inr ⟨k, r, h2, by simpa using ih, y, h3, h4.symm⟩)
  have := reachL_iff hn hv i
  unfold Tb at this
  rw [Bool.eq_iff_iff, key, this]
theorem okS_start (l : List Role) (n : Nat) : okS l n (2 ^ n) := by
  refine ⟨by simp, fun x hx => ?_⟩
  rw [Nat.testBit_two_pow] at hx
  have : n = x := by simpa using hx
  subst this
  exact .refl
theorem rolesGo_has (n : Nat) : ∀ (l pre : List Role), rolesGo n pre l = true → ∀ r ∈ l, ascB r.has 0 (n - 1) = true
  | [], _, _, r, hr => by simp at hr
  | x :: l, pre, h, r, hr => by
    simp only [rolesGo, Bool.and_eq_true] at h
    rcases List.mem_cons.1 hr with rfl | hr
    · exact h.1.2
    · exact rolesGo_has n l _ h.2 r hr
theorem ascB_mem : ∀ (l : List Int) (lo hi : Int), ascB l lo hi = true → ∀ x ∈ l, lo ≤ x ∧ x ≤ hi
  | [], _, _, _, x, hx => by simp at hx
  | y :: l, lo, hi, h, x, hx => by
    rw [ascB, Bool.and_eq_true, inB_t] at h
    rcases List.mem_cons.1 hx with rfl | hx
    · exact h.1
    · have := ascB_mem l _ _ h.2 x hx; omega
theorem roles_has {l : List Role} (h : rolesB l = true) : hasOK l ∧ l.length ≤ 8 := by
  simp only [rolesB, Bool.and_eq_true, decide_eq_true_eq] at h
  refine ⟨fun r hr x hx => ?_, by omega⟩
  have := ascB_mem _ _ _ (rolesGo_has _ l [] h.1 r hr) x hx
  omega
/-- The numbers of what a list of truths has. -/
def idxL (a : List Bool) : Nat → List Int
  | 0 => []
  | k + 1 => idxL a k ++ if a.getD k false then [(k : Int)] else []
def okN (l : List Role) (n : Int) : Bool := rolesB l && inB n 0 (l.length - 1)
def withB (l : List Role) (n : Int) : List Int := if okN l n then idxL (reachL l n.toNat) l.length else []
/-- Has role n another one, of those below m, that has it? -/
def cycK (l : List Role) (n : Nat) : Nat → Bool
  | 0 => false
  | m + 1 => cycK l n m || ((reachL l n).getD m false && (reachL l m).getD n false)
def cycG (l : List Role) : Nat → Bool
  | 0 => false
  | n + 1 => cycG l n || cycK l n n
def cycB (l : List Role) : Bool := rolesB l && cycG l l.length
end Go.Proofs.Ytpoahajgaaoghaa
