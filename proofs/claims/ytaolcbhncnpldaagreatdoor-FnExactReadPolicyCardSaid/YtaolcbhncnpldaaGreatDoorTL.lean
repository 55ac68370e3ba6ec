/- Walks of functions of the cut by the abstract logic, and what they compute. Filled by a program of mine from a template. -/
import Derived.Test.YtaolcbhncnpldaaGreatDoorTXD
import Derived.Test.YtaolcbhncnpldaaGreatDoorTP
import Derived.Test.YtaolcbhncnpldaaGreatDoorCoreE
namespace Go.Proofs.YtaolcbhncnpldaaGreatDoor
open Go Go.AL Go.RowKit
set_option linter.unusedSimpArgs false
set_option linter.unusedVariables false
/-! ### The library's functions on texts -/
theorem itoa_ok (n : Int) (Hn0 : 0 ≤ n) (Hn1 : n ≤ 99) : Gives Tryz.prog 23 [I n] (S (decT n)) := by
  refine ac_of_calls (R := fun v => v = S (decT n)) Tryz.call23 fun w T I τ ρ vs hG hI hA => ?_
  obtain ⟨x, rfl, hx⟩ := reps_one hA
  obtain rfl := rep_int hx
  obtain ⟨i, rfl⟩ : ∃ i : Nat, n = i := ⟨n.toNat, by omega⟩
  refine Calls.mono (Tryz.strconv_Itoa_small i (by omega) w) fun e w' ⟨h1, h2⟩ => ?_
  subst h2
  refine ⟨_, _, I, h1, rfl, Below.refl _ _, NewI.old hI (Below.refl _ _), ?_⟩
  rw [dec_d2 (by omega)]
  exact .d _ _ (.str (d2 i) (by have := d2_len i; omega))
theorem toBA_data (l : List (List UInt8)) : (l.map fun s => (⟨s.toArray⟩ : ByteArray)).map (fun x => x.data.toList) = l := by
  induction l with
  | nil => rfl
  | cons a l ih => simp only [List.map_cons, ih]
theorem join_ok (l : List (List UInt8)) (sep : List UInt8) (Hn : l.length ≤ 140737488355328) (Hl : (Lib.join l sep).length ≤ 140737488355328) : Gives Tryz.prog 21 [LS l, S sep] (S (Lib.join l sep)) := by
  refine ac_of_calls (R := fun v => v = S (Lib.join l sep)) Tryz.call21 fun w T I τ ρ vs hG hI hA => ?_
  obtain ⟨x, y, rfl, hx, hy⟩ := reps_two hA
  obtain ⟨rfl, hy2⟩ := rep_str hy
  obtain ⟨a, cap, rfl, hcap, hmax, hls, hc⟩ := rep_texts (l := l) hI hx
  have hd := toBA_data l
  by_cases h0 : l = []
  · subst h0
    refine Calls.mono (Tryz.strings_Join_none a cap ⟨sep.toArray⟩ w) fun e w' ⟨h1, h2⟩ => ?_
    subst h2
    exact ⟨_, _, I, h1, rfl, Below.refl _ _, NewI.old hI (Below.refl _ _), .d _ _ (.str _ (by simp [Lib.join_nil]))⟩
  · obtain ⟨b, off, rfl, hb, hcell⟩ := hc (by cases l with | nil => exact absurd rfl h0 | cons _ _ => simp)
    have hlen : (l.map fun s => (⟨s.toArray⟩ : ByteArray)).length = l.length := by simp
    have key := Tryz.strings_Join b off cap (l.map fun s => (⟨s.toArray⟩ : ByteArray)) ⟨sep.toArray⟩ w (fun j x hx => by
      rw [List.getElem?_map, Option.map_eq_some_iff] at hx
      obtain ⟨s, hs, rfl⟩ := hx
      exact hcell j s hs) hb (by rw [hlen]; exact Hn) (by rw [hlen]; exact hcap) (by rw [hd]; exact Hl)
    rw [hlen, hd] at key
    refine Calls.mono key fun e w' ⟨h1, h2⟩ => ?_
    exact ⟨_, _, I, h1, rfl, h2, NewI.old hI h2, .d _ _ (.str _ (by omega))⟩
end Go.Proofs.YtaolcbhncnpldaaGreatDoor
