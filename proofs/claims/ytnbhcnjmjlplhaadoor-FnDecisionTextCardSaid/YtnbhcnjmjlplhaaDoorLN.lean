/- Walks of functions of the cut by the abstract logic, and what they compute. Filled by a program of mine from a template. -/
import Derived.Test.YtnbhcnjmjlplhaaDoorLB
import Derived.Test.YtnbhcnjmjlplhaaDoorTP
import Derived.Test.YtnbhcnjmjlplhaaDoorCoreE
namespace Go.Proofs.YtnbhcnjmjlplhaaDoor
open Go Go.AL Go.RowKit
set_option linter.unusedSimpArgs false
set_option linter.unusedVariables false
/-! ### Numbers, each behind a blank -/
def numsT (l : List Int) : List UInt8 := (l.map fun n => 32 :: decT n).flatten
theorem numsT_snoc (l : List Int) (x : Int) : numsT (l ++ [x]) = numsT l ++ 32 :: decT x := by simp [numsT]
theorem numsT_len : ∀ l : List Int, (numsT l).length ≤ 3 * l.length
  | [] => by simp [numsT]
  | x :: l => by
    have h1 := numsT_len l
    have h2 := decT_len x
    unfold numsT at h1 ⊢
    simp only [List.map_cons, List.flatten_cons, List.length_append, List.length_cons]
    omega
/-- A list of numbers in memory. -/
theorem rep_nums {I : IH} {τ : TH} {ρ : Nat → Nat} {n : Nat} {l : List Int} {o : Own} {x : Value} {w : World} (hI : ∀ b o v, I b o = some v → w.cell? ⟨b, o, none⟩ = some v) (h : RepA I τ ρ n (.d (.sl 1 (l.map encI) o)) x) :
    ∃ a cap, x = .slice a l.length cap ∧ l.length ≤ cap ∧ cap ≤ 9223372036854775807 ∧ (0 < l.length → ∃ b off, a = some ⟨b, off, none⟩ ∧ b < w.heap.size ∧ ∀ (j : Nat) s, l[j]? = some s → w.cell? ⟨b, off + j, none⟩ = some (.int .i64 s)) := by
  cases h with
  | d _ _ h =>
  cases h with
  | sl _ _ _ a cap vals hsz hcap hmax hnil hadr hIc hrep hown =>
    have hrs : ∀ (j : Nat) s, l[j]? = some s → vals (j * 1 + 0) = .int .i64 s := fun j s hj => by
      have := hrep j (encI s) 0 (.int .i64 s) (by rw [List.getElem?_map, hj]; rfl) rfl
      cases hv : vals (j * 1 + 0) with
      | _ => rw [hv] at this; cases this <;> rfl
    rw [List.length_map] at *
    refine ⟨a, cap, rfl, hcap, hmax, fun h0 => ?_⟩
    cases a with
    | none => have := hnil rfl; omega
    | some adr =>
      have hs := hadr (by omega) adr rfl
      obtain ⟨b, off, spot⟩ := adr
      dsimp only at hs
      subst hs
      have hc : ∀ (j : Nat) s, l[j]? = some s → w.cell? ⟨b, off + j, none⟩ = some (.int .i64 s) := fun j s hj => by
        have := hI _ _ _ (hIc _ rfl j (encI s) 0 (.int .i64 s) (by rw [List.getElem?_map, hj]; rfl) rfl)
        rw [hrs j s hj] at this
        simpa using this
      refine ⟨b, off, rfl, ?_, hc⟩
      obtain ⟨s, hs⟩ : ∃ s, l[0]? = some s := ⟨l[0], List.getElem?_eq_getElem h0⟩
      exact World.block_lt_of_cell? w ⟨b, off + 0, none⟩ (hc 0 s hs)
theorem take_add_one_l {l : List Int} {k : Nat} (h : k < l.length) : l.take (k + 1) = l.take k ++ [l[k]] := by rw [List.take_succ_eq_append_getElem h]
set_option maxHeartbeats 4000000 in
set_option maxRecDepth 1000000 in
theorem numsWalk (l : List Int) (hl : ∀ n ∈ l, 0 ≤ n ∧ n ≤ 99) (hn : l.length ≤ 1000000000) (a : Option Addr) (cap : Nat) (w : World)
    (hc : 0 < l.length → ∃ b off, a = some ⟨b, off, none⟩ ∧ b < w.heap.size ∧ ∀ (j : Nat) s, l[j]? = some s → w.cell? ⟨b, off + j, none⟩ = some (.int .i64 s)) :
    Calls Tryd.prog 19 #[.slice a l.length cap] w fun e w' => e = .returned (.string ⟨(numsT l).toArray⟩) ∧ Below w.heap.size w w' := by
  go_enter Tryd.func19, Tryd.ntmps19
  go_wp2
  go_loopw [8] (fun i wr => ∃ k : Nat, k ≤ l.length ∧ i = .int .i64 k ∧ Lib.IsBuilder 56 5 w.heap.size w.heap.size (Lib.byteCells (numsT (l.take k))) wr ∧ Below w.heap.size w wr) (fun i _ => l.length - (intOf i).toNat)
  case atStart =>
    exact ⟨0, by omega, rfl, Lib.fresh_isBuilder 56 5 w, (Below.refl _ w).alloc (Nat.le_refl _) _⟩
  case round =>
    obtain ⟨k, hk, rfl, hB, hbw⟩ := hrel
    by_cases hkl : k < l.length
    · obtain ⟨b, off, rfl, hb, hcell⟩ := hc (by omega)
      have hx : l[k]? = some l[k] := List.getElem?_eq_getElem hkl
      have hcx : wr.cell? ⟨b, off + k, none⟩ = some (.int .i64 l[k]) := by
        have := hcell k _ hx
        simpa [World.cell?, hbw.block b hb] using this
      have hr := hl l[k] (List.getElem_mem hkl)
      obtain ⟨i, hi⟩ : ∃ i : Nat, l[k] = i := ⟨l[k].toNat, by omega⟩
      rw [hi] at hcx
      have hlt : i < 100 := by omega
      go_wp2_with (go_at_call 29; refine (Tryd.strconv_Itoa_small i hlt _).mono ?_)
      rintro e W1 ⟨rfl, rfl⟩
      have hlen1 := numsT_len (l.take k)
      have hdl := decT_len l[k]
      have htl : (l.take k).length ≤ l.length := by simp; omega
      have hds : Lib.decDigits i = decT l[k] := by rw [dec_d2 hlt, decT, hi]; rfl
      have hsn : numsT (l.take (k + 1)) = numsT (l.take k) ++ 32 :: decT l[k] := by rw [take_add_one_l hkl, numsT_snoc]
      rw [hi] at hds hdl hsn
      have hcat : ({ data := #[32] } : ByteArray) ++ ({ data := (decT (i : Int)).toArray } : ByteArray) = { data := (32 :: decT (i : Int)).toArray } := mk_append [32] (decT (i : Int))
      have hsz : ({ data := (32 :: decT (i : Int)).toArray } : ByteArray).size = (decT (i : Int)).length + 1 := by simp [ByteArray.size]
      go_wp2_with (go_at_call 28; refine (bldWrite w.heap.size w.heap.size (Lib.byteCells (numsT (l.take k))) _ _ hB ?_ hbw.size).mono ?_)
      · rw [hsz, Lib.byteCells_length]; omega
      rintro e W2 ⟨rfl, hB2, hb2⟩
      go_wp2
      go_roundw
      case rel =>
        refine ⟨k + 1, by omega, by go_num, ?_, hbw.trans hb2⟩
        rw [show Lib.strCells { data := (32 :: decT (i : Int)).toArray } = Lib.byteCells (32 :: decT (i : Int)) from rfl, ← Lib.byteCells_append, ← hsn] at hB2
        exact Or.inr hB2
      case measure => simp [intOf]; omega
    · go_wp2_with (go_at_call 30; refine (Tryd.Builder_String_any w.heap.size w.heap.size (numsT (l.take k)) _ hB hbw.size).mono ?_)
      rintro e W1 ⟨rfl, b1⟩
      go_wp2
      go_ret
      have hke : k = l.length := by omega
      subst hke
      rw [List.take_length]
      exact ⟨rfl, hbw.trans b1⟩
theorem nums_ok (l : List Int) (Hl : ∀ n ∈ l, 0 ≤ n ∧ n ≤ 99) (Hn : l.length ≤ 1000000000) : Gives Tryd.prog 19 [LI l] (S (numsT l)) := by
  refine ac_of_calls (R := fun v => v = S (numsT l)) Tryd.call19 fun w T I τ ρ vs hG hI hA => ?_
  obtain ⟨x, rfl, hx⟩ := reps_one hA
  obtain ⟨a, cap, rfl, hcap, hmax, hc⟩ := rep_nums (l := l) hI hx
  have hlen := numsT_len l
  refine Calls.mono (numsWalk l Hl Hn a cap w hc) fun e w' ⟨h1, h2⟩ => ?_
  exact ⟨_, _, I, h1, rfl, h2, NewI.old hI h2, .d _ _ (.str _ (by omega))⟩
end Go.Proofs.YtnbhcnjmjlplhaaDoor
