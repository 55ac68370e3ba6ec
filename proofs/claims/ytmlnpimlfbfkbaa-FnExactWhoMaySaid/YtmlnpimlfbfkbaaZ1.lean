/- Walks of functions of the cut by the abstract logic, and what they compute. Filled by a program of mine from a template. -/
import Derived.Test.YtmlnpimlfbfkbaaZ0
namespace Go.Proofs.Ytmlnpimlfbfkbaa
open Go Go.AL
set_option linter.unusedSimpArgs false
set_option linter.unusedVariables false

theorem Request.eta (r : Request) : Request.mk r.who r.act r.what r.fields = r := rfl
/-- All requests with the same fields: parts of the list. -/
def rq3 (fs : List Field) (who act b : Nat) : List Request := (List.range b).map fun (x : Nat) => ⟨who, act, x, fs⟩
def rq2 (n : Nat) (fs : List Field) (who a : Nat) : List Request := (List.range a).flatMap fun act => rq3 fs who act n
def rq1 (n : Nat) (fs : List Field) (k : Nat) : List Request := (List.range k).flatMap fun who => rq2 n fs who 4
def allR (w : List Thing) (fs : List Field) : List Request := if worldB w && fieldsB fs w.length then rq1 w.length fs w.length else []
theorem rq3_0 (fs : List Field) (who act : Nat) : rq3 fs who act 0 = [] := rfl
theorem rq2_0 (n : Nat) (fs : List Field) (who : Nat) : rq2 n fs who 0 = [] := rfl
theorem rq1_0 (n : Nat) (fs : List Field) : rq1 n fs 0 = [] := rfl
theorem rq3_s (fs : List Field) (who act b : Nat) : rq3 fs who act (b + 1) = rq3 fs who act b ++ [⟨who, act, b, fs⟩] := by simp [rq3, List.range_succ]
theorem rq2_s (n : Nat) (fs : List Field) (who a : Nat) : rq2 n fs who (a + 1) = rq2 n fs who a ++ rq3 fs who a n := by simp [rq2, List.range_succ]
theorem rq1_s (n : Nat) (fs : List Field) (k : Nat) : rq1 n fs (k + 1) = rq1 n fs k ++ rq2 n fs k 4 := by simp [rq1, List.range_succ]
theorem rq3_len (fs : List Field) (who act b : Nat) : (rq3 fs who act b).length = b := by simp [rq3]
theorem rq2_len (n : Nat) (fs : List Field) (who a : Nat) : (rq2 n fs who a).length = a * n := by
  induction a with
  | zero => simp [rq2]
  | succ a ih => rw [rq2_s, List.length_append, ih, rq3_len, Nat.succ_mul]
theorem rq1_len (n : Nat) (fs : List Field) (k : Nat) : (rq1 n fs k).length = k * (4 * n) := by
  induction k with
  | zero => simp [rq1]
  | succ k ih => rw [rq1_s, List.length_append, ih, rq2_len, Nat.add_mul, Nat.one_mul]
theorem fields_len {l : List Field} {m : Int} (h : fieldsB l m = true) : l.length ≤ 4 := by
  simp only [fieldsB, Bool.and_eq_true, decide_eq_true_eq] at h
  omega
theorem bd4 {n k a b : Nat} (hn : n ≤ 7) (hk : k ≤ n) (ha : a ≤ 4) (hb : b ≤ n) (fs : List Field) : (rq1 n fs k ++ rq2 n fs k a ++ rq3 fs k a b).length ≤ 400 := by
  rw [List.length_append, List.length_append, rq1_len, rq2_len, rq3_len]
  have h1 : k * (4 * n) ≤ 7 * (4 * 7) := Nat.mul_le_mul (by omega) (by omega)
  have h2 : a * n ≤ 4 * 7 := Nat.mul_le_mul (by omega) (by omega)
  omega
def rqZ : Request := ⟨0, 0, 0, []⟩
/-- The first request that is decided otherwise. -/
def diffL (w : List Thing) (a b : List Policy) : List Request → Option Request
  | [] => none
  | r :: l => if ((decB w r a).allow == (decB w r b).allow) = true then diffL w a b l else some r
def moreL (w : List Thing) (a b : List Policy) : List Request → Bool
  | [] => true
  | r :: l => if ((decB w r b).allow && !(decB w r a).allow) = true then false else moreL w a b l
def cntL (w : List Thing) (a : List Policy) : List Request → Nat
  | [] => 0
  | r :: l => if (decB w r a).allow = true then 1 + cntL w a l else cntL w a l
theorem cntL_len (w : List Thing) (a : List Policy) : ∀ l, cntL w a l ≤ l.length
  | [] => Nat.le_refl _
  | r :: l => by have := cntL_len w a l; rw [cntL]; split <;> simp <;> omega
def okA (w : List Thing) (fs : List Field) (a b : List Policy) : Bool := worldB w && fieldsB fs w.length && polsB a && polsB b
theorem mem_rq1 {n : Nat} {fs : List Field} {r : Request} {k : Nat} (h : r ∈ rq1 n fs k) : (0 ≤ r.who ∧ r.who < k) ∧ (0 ≤ r.act ∧ r.act ≤ 3) ∧ (0 ≤ r.what ∧ r.what < n) ∧ r.fields = fs := by
  simp only [rq1, rq2, rq3, List.mem_flatMap, List.mem_map, List.mem_range] at h
  obtain ⟨a, ha, b, hb, c, hc, rfl⟩ := h
  exact ⟨⟨Int.natCast_nonneg _, by simpa using ha⟩, ⟨Int.natCast_nonneg _, by dsimp only; omega⟩, ⟨Int.natCast_nonneg _, by simpa using hc⟩, rfl⟩
theorem allR_mem {w : List Thing} {fs : List Field} {r : Request} (h : r ∈ allR w fs) : reqB w r = true := by
  unfold allR at h
  split at h
  · rename_i hv
    obtain ⟨h1, h2, h3, h4⟩ := mem_rq1 h
    simp only [Bool.and_eq_true] at hv
    simp only [reqB, Bool.and_eq_true, inB_t, h4]
    exact ⟨⟨⟨⟨hv.1, by omega⟩, by omega⟩, h2⟩, hv.2⟩
  · simp at h
theorem allR_len (w : List Thing) (fs : List Field) : (allR w fs).length ≤ 196 := by
  unfold allR
  split
  · rename_i hv
    simp only [Bool.and_eq_true] at hv
    have hn := world_len hv.1
    rw [rq1_len]
    have : w.length * (4 * w.length) ≤ 7 * (4 * 7) := Nat.mul_le_mul (by omega) (by omega)
    omega
  · simp
theorem decG_B {w : List Thing} {r : Request} {a : List Policy} (h : reqB w r = true) (h2 : polsB a = true) : decG w r a = decB w r a := by simp [decB, h, h2]
def diffB (w : List Thing) (fs : List Field) (a b : List Policy) : Option Request := diffL w a b (allR w fs)
def fdB (w : List Thing) (fs : List Field) (a b : List Policy) : Option Request := if okA w fs a b then diffB w fs a b else none
def moreB (w : List Thing) (fs : List Field) (a b : List Policy) : Bool := okA w fs a b && moreL w a b (allR w fs)
def cntB (w : List Thing) (fs : List Field) (a : List Policy) : Int := if okA w fs a a then (cntL w a (allR w fs) : Int) else -1
end Go.Proofs.Ytmlnpimlfbfkbaa
