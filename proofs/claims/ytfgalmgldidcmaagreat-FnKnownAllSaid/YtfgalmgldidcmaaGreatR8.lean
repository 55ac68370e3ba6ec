/- Walks of functions of the cut by the abstract logic, and what they compute. Filled by a program of mine from a template. -/
import Derived.Test.YtfgalmgldidcmaaGreatR7
import Derived.Test.YtfgalmgldidcmaaGreatSHK
import Derived.Lib.SlicesCompact
namespace Go.Proofs.YtfgalmgldidcmaaGreat
open Go Go.AL
set_option linter.unusedSimpArgs false
set_option linter.unusedVariables false
/-! ### Names, sorted and each once -/
theorem keeps_is (zs : List (List UInt8)) (j : Nat) (h : Lib.keeps zs.toArray j = false) : 0 < j ∧ zs[j]! = zs[j - 1]! := by
  simp [Lib.keeps] at h
  exact ⟨by omega, by simp only [List.getElem!_eq_getElem?_getD]; exact h.2⟩
theorem compact_has {zs : List (List UInt8)} : ∀ (j : Nat), j < zs.length → zs[j]! ∈ Lib.compact zs := by
  intro j
  induction j with
  | zero =>
    intro hj
    refine List.mem_map.2 ⟨0, List.mem_filter.2 ⟨List.mem_range.2 hj, Lib.keeps_lt_one _ 0 (by omega)⟩, by simp⟩
  | succ j ih =>
    intro hj
    cases hk : Lib.keeps zs.toArray (j + 1)
    · obtain ⟨_, h2⟩ := keeps_is zs (j + 1) hk
      rw [h2]
      exact ih (by omega)
    · exact List.mem_map.2 ⟨j + 1, List.mem_filter.2 ⟨List.mem_range.2 hj, hk⟩, by simp⟩
theorem mem_compact {zs : List (List UInt8)} {x : List UInt8} (h : x ∈ zs) : x ∈ Lib.compact zs := by
  obtain ⟨j, hj, rfl⟩ := List.getElem_of_mem h
  have := compact_has j hj
  rwa [getElem!_pos zs j hj] at this
theorem compact_mem {zs : List (List UInt8)} {x : List UInt8} (h : x ∈ Lib.compact zs) : x ∈ zs := by
  obtain ⟨j, hj, rfl⟩ := List.mem_map.1 h
  have := List.mem_range.1 (List.mem_filter.1 hj).1
  simp [getElem!_pos zs j this]
theorem compact_len (zs : List (List UInt8)) : (Lib.compact zs).length ≤ zs.length := by
  unfold Lib.compact Lib.compactUpTo
  rw [List.length_map]
  have := List.length_filter_le (Lib.keeps zs.toArray) (List.range zs.length)
  rwa [List.length_range] at this
def srtS (l : List (List UInt8)) : List (List UInt8) := l.mergeSort fun x y => decide (x ≤ y)
theorem srtS_len (l : List (List UInt8)) : (srtS l).length = l.length := List.length_mergeSort l
theorem srtS_mem {l : List (List UInt8)} {x : List UInt8} : x ∈ srtS l ↔ x ∈ l := List.mem_mergeSort
theorem holds_of {w : World} {b cap : Nat} {zs : List (List UInt8)} {arr : Array Value} {T : TypeId} (hb : w.heap[b]? = some (.cells arr T (0, 0))) (hz : ∀ (j : Nat) z, zs[j]? = some z → arr[j]? = some (.string ⟨z.toArray⟩)) : Go.Sort.Holds Go.Proofs.encStr w b 0 zs.toArray := fun j hj => by
  have hj' : j < zs.length := by simpa using hj
  refine ⟨?_, ?_⟩
  · have h1 := hz j zs[j] (by simp [hj'])
    have h2 : zs.toArray[j]! = zs[j] := by rw [getElem!_pos zs.toArray j hj]; simp
    simp only [World.cell?, hb, h2, Nat.zero_add]
    simpa using h1
  · simp [World.frozen?, hb]
theorem put_of {w w' : World} {b : Nat} {ys : List (List UInt8)} {arr : Array Value} {T : TypeId} {os : Array Obj} (hb : w.heap[b]? = some (.cells arr T (0, 0))) (hl : ys.length ≤ arr.size) (hh : w'.heap = (w.heap.modify b (Go.Sort.onCells (Go.Sort.putCells Go.Proofs.encStr 0 ys.toArray))) ++ os) (h1 : w'.os = w.os) (h2 : w'.tape = w.tape) (h3 : w'.output = w.output) :
    (∃ arr', w'.heap[b]? = some (.cells arr' T (0, 0)) ∧ arr'.size = arr.size ∧ ∀ (j : Nat) z, ys[j]? = some z → arr'[j]? = some (.string ⟨z.toArray⟩)) ∧ FrameW [b] w w' := by
  have hbl := (Array.getElem?_eq_some_iff.1 hb).1
  have hget : ∀ k, k < w.heap.size → w'.heap[k]? = if b = k then (w.heap[k]?).map (Go.Sort.onCells (Go.Sort.putCells Go.Proofs.encStr 0 ys.toArray)) else w.heap[k]? := fun k hk => by
    rw [hh, Array.getElem?_append_left (by simpa using hk), Array.getElem?_modify]
  refine ⟨⟨Go.Sort.putCells Go.Proofs.encStr 0 ys.toArray arr, ?_, ?_, fun j z hz' => ?_⟩, ?_, fun k hk hn => ?_, h1, h2, h3⟩
  · rw [hget b hbl, if_pos rfl, hb]; rfl
  · simp [Go.Sort.putCells]
  · have hj := (List.getElem?_eq_some_iff.1 hz').1
    have hj2 : j < arr.size := by omega
    have h3 : ys[j]! = z := by rw [getElem!_pos ys j hj]; exact (List.getElem?_eq_some_iff.1 hz').2
    simp [Go.Sort.putCells, Array.getElem?_mapIdx, hj2, hj, Go.Proofs.encStr]
    exact (List.getElem?_eq_some_iff.1 hz').2
  · rw [hh]; simp
  · rw [hget k hk, if_neg (fun e => hn (by simp [e]))]
theorem sortS : InG Tryz.prog 53 srtS fun _ _ _ => .tuple #[] := by
  refine ⟨Tryz.call53, fun zs => by rw [srtS_len]; exact Nat.le_refl _, fun w b cap zs arr T hb hsz hm hc hl hz => ?_⟩
  have hbl := (Array.getElem?_eq_some_iff.1 hb).1
  refine Calls.mono (Tryz.slices_Sort_string b 0 cap zs w (holds_of (cap := cap) hb hz) hbl hl) fun e w' ⟨h1, n, os, h2⟩ => ⟨h1, ?_⟩
  subst h2
  exact put_of (os := os) hb (by rw [srtS_len]; omega) rfl rfl rfl rfl
theorem compS : InG Tryz.prog 54 Lib.compact fun b cap n => .slice (some ⟨b, 0, none⟩) n cap := by
  refine ⟨Tryz.call54, compact_len, fun w b cap zs arr T hb hsz hm hc hl hz => ?_⟩
  refine Calls.mono (Tryz.slices_Compact_string b 0 cap zs w (holds_of (cap := cap) hb hz) (by omega) hc) fun e w' ⟨h1, q, h2⟩ => ⟨h1, ?_⟩
  subst h2
  have hle := compact_len zs
  obtain ⟨⟨arr', g1, g2, g3⟩, g4⟩ := put_of (w := w) (ys := Lib.compact zs ++ List.replicate (zs.length - (Lib.compact zs).length) []) (w' := Go.Sort.putRow Go.Proofs.encStr (Go.Sort.ahead w q) b 0 (Lib.compact zs ++ List.replicate (zs.length - (Lib.compact zs).length) []).toArray) (os := #[]) hb (by simp; omega) (by simp [Go.Sort.putRow, Go.Sort.ahead, Go.Sort.mapBlock]) rfl rfl rfl
  exact ⟨⟨arr', g1, g2, fun j z hj => g3 j z (by rw [List.getElem?_append_left (List.getElem?_eq_some_iff.1 hj).1]; exact hj)⟩, g4⟩
end Go.Proofs.YtfgalmgldidcmaaGreat
