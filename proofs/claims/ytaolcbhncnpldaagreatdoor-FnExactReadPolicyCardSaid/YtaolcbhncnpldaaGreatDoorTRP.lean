/- Walks of functions of the cut by the abstract logic, and what they compute. Filled by a program of mine from a template. -/
import Derived.Test.YtaolcbhncnpldaaGreatDoorTRM
import Derived.Test.YtaolcbhncnpldaaGreatDoorTPL
namespace Go.Proofs.YtaolcbhncnpldaaGreatDoor
open Go Go.AL
set_option linter.unusedSimpArgs false
set_option linter.unusedVariables false
/-! ### Plain facts for the readers -/
theorem wd_get : ∀ (t : List UInt8) (j : Nat), j < (wd t).length → ∃ b, t[j]? = some b ∧ dlm b = false
  | [], j, h => by simp [wd] at h
  | b :: t, j, h => by
    unfold wd at h
    by_cases hb : dlm b = true
    · rw [List.takeWhile_cons_of_neg (by simp [hb])] at h; simp at h
    · have hb' : dlm b = false := by simpa using hb
      rw [List.takeWhile_cons_of_pos (by simp [hb'])] at h
      cases j with
      | zero => exact ⟨b, rfl, hb'⟩
      | succ j =>
        obtain ⟨c, h1, h2⟩ := wd_get t j (by simpa [wd] using h)
        exact ⟨c, by simpa using h1, h2⟩
theorem wd_end (t : List UInt8) (h : (wd t).length < t.length) : ∃ b, t[(wd t).length]? = some b ∧ dlm b = true := by
  have h1 := wd_rs t
  cases hr : rs t with
  | nil => have := congrArg List.length h1; rw [hr, List.append_nil] at this; omega
  | cons b r =>
    refine ⟨b, ?_, rs_dlmd t b r hr⟩
    have e := congrArg (fun l : List UInt8 => l[(wd t).length]?) h1
    simp only [hr] at e
    rw [List.getElem?_append_right (Nat.le_refl _), Nat.sub_self] at e
    exact e.symm
theorem wd_len (s : List UInt8) : (wd s).length + (rs s).length = s.length := by have := congrArg List.length (wd_rs s); rwa [List.length_append] at this
theorem ne_dlm {b : UInt8} (h : dlm b = false) : ((b.toNat : Int) != 32) = true ∧ ((b.toNat : Int) != 40) = true ∧ ((b.toNat : Int) != 41) = true := by
  have : ∀ c : UInt8, dlm b = false → dlm c = true → ((b.toNat : Int) != (c.toNat : Int)) = true := fun c h1 h2 => by
    rw [bne_iff_ne]
    intro e
    have : b = c := UInt8.toNat_inj.1 (by omega)
    rw [this, h2] at h1; cases h1
  exact ⟨this 32 h rfl, this 40 h rfl, this 41 h rfl⟩
theorem is_dlm {b : UInt8} (h : dlm b = true) : b = 32 ∨ b = 40 ∨ b = 41 := by
  simpa [dlm] using h
theorem getD_u {s : List UInt8} {i : Nat} {b : UInt8} (h : s[i]? = some b) : s.getD i 0 = b := by simp [List.getD, h]
theorem b_ne {b : UInt8} {c : Nat} (h : b.toNat ≠ c) : ((b.toNat : Int) == (c : Int)) = false ∧ ((b.toNat : Int) != (c : Int)) = true := by
  constructor
  · rw [beq_eq_false_iff_ne]; omega
  · rw [bne_iff_ne]; omega
theorem head_drop (s : List UInt8) (n : Nat) : (s.drop n).head? = s[n]? := by simp
theorem tail_drop (s : List UInt8) (n : Nat) : (s.drop n).tail = s.drop (n + 1) := by simp
theorem readY_nil : ∀ d, readY d [] = none
  | 0 => rfl
  | d + 1 => by rw [readY]; simp [wd]
theorem midX_bad2 {f : List UInt8 → Option (Expr × List UInt8)} {pre : List Expr} {n : Nat} {s : List UInt8} (he : f s.tail = none) : midX f pre (n + 1) s = none := by
  by_cases h : s.head? = some 32
  · exact midX_bad h he
  · exact midX_no h
/-- What of the kinds up to a place has been found. -/
def fk (o : Option Int) (k : Int) : Int := match o with
  | some j => if j < k then j else 0
  | none => 0
theorem fk_hit {o : Option Int} {k : Int} (h : o = some k) : fk o (k + 1) = k := by rw [h]; show (if k < k + 1 then k else 0) = k; rw [if_pos (by omega)]
theorem fk_miss {o : Option Int} {k : Int} (h : o ≠ some k) : fk o (k + 1) = fk o k := by
  cases o with
  | none => rfl
  | some j =>
    have hj : j ≠ k := fun e => h (by rw [e])
    show (if j < k + 1 then j else 0) = (if j < k then j else 0)
    by_cases h1 : j < k
    · rw [if_pos (by omega), if_pos h1]
    · rw [if_neg (by omega), if_neg h1]
theorem fk_7 (w : List UInt8) : fk (kindOf w) 7 = 0 := by
  cases h : kindOf w with
  | none => rfl
  | some j => have := kindOf_some h; show (if j < 7 then j else 0) = 0; rw [if_neg (by omega)]
theorem fk_16 (w : List UInt8) : fk (kindOf w) 16 = (kindOf w).getD 0 := by
  cases h : kindOf w with
  | none => rfl
  | some j => have := kindOf_some h; show (if j < 16 then j else 0) = j; rw [if_pos (by omega)]
theorem kindOf_is {w : List UInt8} {k : Int} (h : 7 ≤ k ∧ k ≤ 15) : kindOf w = some k ↔ wordT k = w := by
  constructor
  · intro e; exact (kindOf_some e).2
  · intro e; rw [← e]; exact kindOf_word h
/-- A text behind a place is no longer than it should be. -/
theorem wd_take2 (s : List UInt8) (a : Nat) : (s.drop a).take (wd (s.drop a)).length = wd (s.drop a) := by
  have h := wd_rs (s.drop a)
  have h1 : (wd (s.drop a) ++ rs (s.drop a)).take (wd (s.drop a)).length = wd (s.drop a) := List.take_left' rfl
  rw [h] at h1; exact h1
theorem rs_drop2 (s : List UInt8) (a : Nat) : rs (s.drop a) = s.drop (a + (wd (s.drop a)).length) := by
  have h := wd_rs (s.drop a)
  have h2 : (wd (s.drop a) ++ rs (s.drop a)).drop (wd (s.drop a)).length = rs (s.drop a) := List.drop_left' rfl
  rw [h, List.drop_drop] at h2
  rw [← h2]
end Go.Proofs.YtaolcbhncnpldaaGreatDoor
