/- Walks of functions of the cut by the abstract logic, and what they compute. Filled by a program of mine from a template. -/
import Derived.Test.YtnbhcnjmjlplhaaDoorW2
import Derived.Lib.Split
import Derived.Lib.Join
import Derived.Lib.ItoaNum
import Derived.Lib.IndexMore
import Derived.Lib.IndexBytes
import Derived.Lib.CountLaws
namespace Go.Proofs.YtnbhcnjmjlplhaaDoor
open Go Go.AL
set_option linter.unusedSimpArgs false
set_option linter.unusedVariables false
/-! ### Texts: plain facts -/
/-- A number of at most two digits. -/
def d2 (u : Nat) : List UInt8 := if u < 10 then [UInt8.ofNat (48 + u)] else [UInt8.ofNat (48 + u / 10), UInt8.ofNat (48 + u % 10)]
def decT (n : Int) : List UInt8 := d2 n.toNat
theorem dec_d2 {u : Nat} (h : u < 100) : Lib.decDigits u = d2 u := by
  unfold d2
  rw [Lib.decDigits]
  split
  · rfl
  · rw [Lib.decDigits, dif_pos (by omega)]; rfl
theorem d2_len (u : Nat) : (d2 u).length ≤ 2 := by unfold d2; split <;> simp
theorem decT_len (a : Int) : (decT a).length ≤ 2 := d2_len _
def truT (n : Int) : List UInt8 := if n = 0 then [110, 111] else [121, 101, 115]
/-- The text of a value. -/
def valT (k n : Int) : List UInt8 := if valB k n 100 = true then (if k = 1 then truT n else if k = 2 then decT n else 35 :: decT n) else []
/-- The text of a field. -/
def fieldT (f : Field) : List UInt8 := f.name ++ 61 :: valT f.kind f.number
/-- A text cut at blanks. -/
def wordsT : List UInt8 → List (List UInt8)
  | [] => [[]]
  | b :: l => if b = 32 then [] :: wordsT l else match wordsT l with
    | [] => [[b]]
    | w :: ws => (b :: w) :: ws
/-! ### Cutting and splitting at one byte -/
end Go.Proofs.YtnbhcnjmjlplhaaDoor
