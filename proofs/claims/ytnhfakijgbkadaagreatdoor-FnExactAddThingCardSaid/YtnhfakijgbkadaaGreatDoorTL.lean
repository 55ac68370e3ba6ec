/- Walks of functions of the cut by the abstract logic, and what they compute. Filled by a program of mine from a template. -/
import Derived.Test.YtnhfakijgbkadaaGreatDoorTXD
import Derived.Test.YtnhfakijgbkadaaGreatDoorTP
import Derived.Test.YtnhfakijgbkadaaGreatDoorCoreE
namespace Go.Proofs.YtnhfakijgbkadaaGreatDoor
open Go Go.AL Go.RowKit
set_option linter.unusedSimpArgs false
set_option linter.unusedVariables false
/-! ### The library's functions on texts -/
theorem itoa_ok (n : Int) (Hn0 : 0 ≤ n) (Hn1 : n ≤ 99) : Gives Tryz.prog 53 [I n] (S (decT n)) := by
  refine ac_of_calls (R := fun v => v = S (decT n)) Tryz.call53 fun w T I τ ρ vs hG hI hA => ?_
  obtain ⟨x, rfl, hx⟩ := reps_one hA
  obtain rfl := rep_int hx
  obtain ⟨i, rfl⟩ : ∃ i : Nat, n = i := ⟨n.toNat, by omega⟩
  refine Calls.mono (Tryz.strconv_Itoa_small i (by omega) w) fun e w' ⟨h1, h2⟩ => ?_
  subst h2
  refine ⟨_, _, I, h1, rfl, Below.refl _ _, NewI.old hI (Below.refl _ _), ?_⟩
  rw [dec_d2 (by omega)]
  exact .d _ _ (.str (d2 i) (by have := d2_len i; omega))
theorem toBA_data (l : List (List UInt8)) : (l.map fun s => (⟨s.toArray⟩ : ByteArray)).map (fun x => x.data.toList) = l := by
  induction l with
  | nil => rfl
  | cons a l ih => simp only [List.map_cons, ih]
theorem join_ok (l : List (List UInt8)) (sep : List UInt8) (Hn : l.length ≤ 140737488355328) (Hl : (Lib.join l sep).length ≤ 140737488355328) : Gives Tryz.prog 55 [LS l, S sep] (S (Lib.join l sep)) := by
  refine ac_of_calls (R := fun v => v = S (Lib.join l sep)) Tryz.call55 fun w T I τ ρ vs hG hI hA => ?_
  obtain ⟨x, y, rfl, hx, hy⟩ := reps_two hA
  obtain ⟨rfl, hy2⟩ := rep_str hy
  obtain ⟨a, cap, rfl, hcap, hmax, hls, hc⟩ := rep_texts (l := l) hI hx
  have hd := toBA_data l
  by_cases h0 : l = []
  · subst h0
    refine Calls.mono (Tryz.strings_Join_none a cap ⟨sep.toArray⟩ w) fun e w' ⟨h1, h2⟩ => ?_
    subst h2
    exact ⟨_, _, I, h1, rfl, Below.refl _ _, NewI.old hI (Below.refl _ _), .d _ _ (.str _ (by simp [Lib.join_nil]))⟩
  · obtain ⟨b, off, rfl, hb, hcell⟩ := hc (by cases l with | nil => exact absurd rfl h0 | cons _ _ => simp)
    have hlen : (l.map fun s => (⟨s.toArray⟩ : ByteArray)).length = l.length := by simp
    have key := Tryz.strings_Join b off cap (l.map fun s => (⟨s.toArray⟩ : ByteArray)) ⟨sep.toArray⟩ w (fun j x hx => by
      rw [List.getElem?_map, Option.map_eq_some_iff] at hx
      obtain ⟨s, hs, rfl⟩ := hx
      exact hcell j s hs) hb (by rw [hlen]; exact Hn) (by rw [hlen]; exact hcap) (by rw [hd]; exact Hl)
    rw [hlen, hd] at key
    refine Calls.mono key fun e w' ⟨h1, h2⟩ => ?_
    exact ⟨_, _, I, h1, rfl, h2, NewI.old hI h2, .d _ _ (.str _ (by omega))⟩
theorem below_drewN (w : World) (n : Nat) : Below w.heap.size w (w.drewN n) := ⟨rfl, rfl, rfl, Nat.le_refl _, fun _ _ => rfl⟩
theorem cut_len (s sep : List UInt8) : (Lib.cut s sep).1.length ≤ s.length ∧ (Lib.cut s sep).2.1.length ≤ s.length := by
  unfold Lib.cut
  split <;> simp <;> omega
theorem cut_ok (s sep : List UInt8) (Hs : s.length < 4294967281) : Gives Tryz.prog 63 [S s, S sep] (.tup [S (Lib.cut s sep).1, S (Lib.cut s sep).2.1, B (Lib.cut s sep).2.2]) := by
  refine ac_of_calls (R := fun v => v = _) Tryz.call63 fun w T I τ ρ vs hG hI hA => ?_
  obtain ⟨x, y, rfl, hx, hy⟩ := reps_two hA
  obtain ⟨rfl, hx2⟩ := rep_str hx
  obtain ⟨rfl, hy2⟩ := rep_str hy
  obtain ⟨m, hm⟩ := gMax hG
  have hcl := cut_len s sep
  refine Calls.mono (Tryz.strings_Cut ⟨s.toArray⟩ ⟨sep.toArray⟩ m w (by simpa [ByteArray.size] using Hs) hm) fun e w' ⟨h1, n, h2⟩ => ?_
  subst h2
  refine ⟨_, _, I, h1, rfl, below_drewN w n, NewI.old hI (below_drewN w n), ?_⟩
  refine .tup _ [_, _, _] rfl fun i v x hv hx => ?_
  match i, hv, hx with
  | 0, hv, hx => cases hv; cases hx; exact .d _ _ (.str _ (by omega))
  | 1, hv, hx => cases hv; cases hx; exact .d _ _ (.str _ (by omega))
  | 2, hv, hx => cases hv; cases hx; exact .d _ _ (.bool _)
  | i + 3, hv, hx => simp at hv
theorem split_ok (s : List UInt8) (Hs : s.length < 4294967281) : Gives Tryz.prog 30 [S s, S [32]] (LS (wordsT s)) := by
  refine ac_of_calls (R := fun v => v = LS (wordsT s)) Tryz.call30 fun w T I τ ρ vs hG hI hA => ?_
  obtain ⟨x, y, rfl, hx, hy⟩ := reps_two hA
  obtain ⟨rfl, hx2⟩ := rep_str hx
  obtain ⟨rfl, hy2⟩ := rep_str hy
  obtain ⟨m, hm⟩ := gMax hG
  have hdat := Lib.splitB_data ⟨[32].toArray⟩ 0 (Lib.countB ⟨s.toArray⟩ ⟨[32].toArray⟩) ⟨s.toArray⟩
  generalize hps : Lib.splitB ⟨[32].toArray⟩ 0 (Lib.countB ⟨s.toArray⟩ ⟨[32].toArray⟩) ⟨s.toArray⟩ = ps at hdat
  have key := Tryz.strings_Split ⟨s.toArray⟩ ⟨[32].toArray⟩ m w (by simpa [ByteArray.size] using Hs) hm (by simp [ByteArray.size])
  rw [hps] at key
  have hL : ps.map (fun x => x.data.toList) = wordsT s := hdat.trans (split_eq s)
  have hcnt : Lib.countB ⟨s.toArray⟩ ⟨[32].toArray⟩ + 1 = (wordsT s).length := count_eq s
  rw [hcnt] at key
  have hcl := Lib.count_le s [32]
  have hcq := count_eq s
  refine Calls.mono key fun e w' ⟨h1, h2⟩ => ?_
  subst h2
  have hwl : ∀ x ∈ wordsT s, x.length ≤ s.length := wordsT_le s
  have hb : Below w.heap.size w (w.alloc (.cells (List.map Value.string ps).toArray 9)) := ⟨rfl, rfl, rfl, by simp, fun k hk => halloc_old w _ k hk⟩
  obtain ⟨I', g1, g2⟩ := new_texts (τ := τ) (ρ := ρ) (l := wordsT s) (b := w.heap.size) (cap := (wordsT s).length) hI hb (Nat.le_refl _) (fun x hx => by have := hwl x hx; omega) (Nat.le_refl _) (by omega) (fun j x hj => by
    rw [World.cell?_alloc_new]
    rw [← hL, List.getElem?_map, Option.map_eq_some_iff] at hj
    obtain ⟨p, hp, rfl⟩ := hj
    simp [hp])
  exact ⟨_, _, I', h1, rfl, hb, g1, g2⟩
end Go.Proofs.YtnhfakijgbkadaaGreatDoor
