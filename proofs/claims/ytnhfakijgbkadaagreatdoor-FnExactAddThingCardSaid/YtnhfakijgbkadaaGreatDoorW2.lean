/- Walks of functions of the cut by the abstract logic, and what they compute. Filled by a program of mine from a template. -/
import Derived.Test.YtnhfakijgbkadaaGreatDoorW1
namespace Go.Proofs.YtnhfakijgbkadaaGreatDoor
open Go Go.AL
set_option linter.unusedSimpArgs false
set_option linter.unusedVariables false

theorem ascB_mem : ∀ {l : List Int} {lo hi : Int}, ascB l lo hi = true → ∀ x ∈ l, lo ≤ x ∧ x ≤ hi
  | [], _, _, _, x, h => by simp at h
  | n :: r, lo, hi, h, x, hx => by
    rw [ascB, Bool.and_eq_true] at h
    have h1 := inB_t.1 h.1
    rcases List.mem_cons.1 hx with rfl | hx
    · exact h1
    · have := ascB_mem h.2 x hx; omega
theorem worldGo_get {n : Nat} : ∀ {l : List Thing} {k : Nat}, worldGo n k l = true → ∀ (i : Nat) (t : Thing), l[i]? = some t → ascB t.groups 0 (((k + i : Nat) : Int) - 1) = true ∧ fieldsB t.fields n = true
  | [], _, _, i, t, h => by simp at h
  | x :: l, k, h, i, t, ht => by
    rw [worldGo, Bool.and_eq_true, Bool.and_eq_true] at h
    cases i with
    | zero => simp at ht; subst ht; exact ⟨by simpa using h.1.1, h.1.2⟩
    | succ i =>
      have := worldGo_get h.2 i t (by simpa using ht)
      rw [show k + 1 + i = k + (i + 1) by omega] at this
      exact this
theorem world_get {w : List Thing} (h : worldB w = true) {i : Nat} {t : Thing} (ht : w[i]? = some t) : ascB t.groups 0 ((i : Int) - 1) = true ∧ fieldsB t.fields w.length = true := by
  simp only [worldB, Bool.and_eq_true] at h
  have := worldGo_get h.1 i t ht
  simpa using this
theorem world_len {w : List Thing} (h : worldB w = true) : w.length ≤ 7 := by
  simp only [worldB, Bool.and_eq_true, decide_eq_true_eq] at h
  omega
/-- Groups have lesser numbers. -/
def okW (w : List Thing) : Prop := ∀ (k : Nat) (t : Thing), w[k]? = some t → ∀ g ∈ t.groups, 0 ≤ g ∧ g < k
/-- A thing is in another one, by groups at most so often. -/
def inW (w : List Thing) (g : Int) : Nat → Int → Bool
  | 0, t => t == g
  | d + 1, t => t == g || (w.getD t.toNat ⟨[], []⟩).groups.any (inW w g d)

/-- A thing of a valid world is in another one. -/
def isInB (w : List Thing) (t g : Int) : Bool := worldB w && inB t 0 ((w.length : Int) - 1) && inB g 0 ((w.length : Int) - 1) && inW w g w.length t

/-- A valid request. -/
def reqB (w : List Thing) (r : Request) : Bool := worldB w && inB r.who 0 ((w.length : Int) - 1) && inB r.what 0 ((w.length : Int) - 1) && inB r.act 0 3 && fieldsB r.fields w.length
/-- The value of the first field of a name. -/
def fieldO (l : List Field) (nm : List UInt8) : Option (Int × Int) :=
  match l with
  | [] => none
  | f :: r => if f.name = nm then some (f.kind, f.number) else fieldO r nm
def fo1 (x : Option (Int × Int)) : Int := (x.getD (0, 0)).1
def fo2 (x : Option (Int × Int)) : Int := (x.getD (0, 0)).2
end Go.Proofs.YtnhfakijgbkadaaGreatDoor
