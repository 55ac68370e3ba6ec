/- Walks of functions of the cut by the abstract logic, and what they compute. Filled by a program of mine from a template. -/
import Derived.Test.YtaolcbhncnpldaaGreatDoorTRD
import Derived.Shelf.Strings.IndexAnyAll
import Derived.Lib.IndexAny
import Derived.Shelf.Small.Utf8
import Derived.Lib.Small
import Derived.Lib.OthersKept
import Derived.Laws.RangeAny
import Derived.Laws.Runes
import Derived.Laws.RangeString
import Derived.Laws.Strings3
import Derived.Deep.LoopGhost
import Derived.WalkMore
import Derived.Shelf.RegionOpenPlain
namespace Go.Proofs.YtaolcbhncnpldaaGreatDoor
open Go Go.AL Go.RowKit Go.Shelf
set_option linter.unusedSimpArgs false
set_option linter.unusedVariables false
/-! ### IndexAny at short texts that are not ASCII -/
section
theorem getB (s : ByteArray) (k : Nat) (h : k < s.size) : s.get! k = s[k]'h := by
  simp [ByteArray.get!, getElem!_pos, h]; rfl
/-- The bytes of a rune that begins high are all high. -/
theorem decode_bytes (s : ByteArray) (pos : Nat) (h : pos < s.size) (ha : 128 ≤ (s[pos]'h).toNat) : pos + (Utf8.decode s pos).2 ≤ s.size ∧ ∀ j, j < (Utf8.decode s pos).2 → ∀ hj : pos + j < s.size, 128 ≤ (s[pos + j]'hj).toNat := by
  have g0 := getB s (pos + 0) h
  have h0 : ¬ (s.get! (pos + 0)).toNat < 128 := by rw [g0]; exact Nat.not_lt.2 ha
  have one : ∀ j, j < 1 → ∀ hj : pos + j < s.size, 128 ≤ (s[pos + j]'hj).toNat := fun j h1 hj => by
    obtain rfl : j = 0 := by omega
    exact ha
  have hc : ∀ k, (decide (pos + k < s.size) && (s.get! (pos + k)).toNat / 64 == 2) = true → pos + k < s.size ∧ ∀ hj : pos + k < s.size, 128 ≤ (s[pos + k]'hj).toNat := fun k hk => by
    simp only [Bool.and_eq_true, decide_eq_true_eq, beq_iff_eq] at hk
    refine ⟨hk.1, fun hj => ?_⟩
    have := getB s (pos + k) hj
    rw [← this]; omega
  simp only [Utf8.decode, h0, if_false]
  split
  · rename_i c1
    rw [Bool.and_eq_true] at c1
    have k1 := hc 1 c1.2
    split
    · refine ⟨by dsimp only; omega, fun j hj hjj => ?_⟩
      dsimp only at hj
      rcases (by omega : j = 0 ∨ j = 1) with rfl | rfl
      · exact ha
      · exact k1.2 hjj
    · exact ⟨by dsimp only; omega, one⟩
  · split
    · rename_i c1
      rw [Bool.and_eq_true, Bool.and_eq_true] at c1
      have k1 := hc 1 c1.1.2
      have k2 := hc 2 c1.2
      split
      · refine ⟨by dsimp only; omega, fun j hj hjj => ?_⟩
        dsimp only at hj
        rcases (by omega : j = 0 ∨ j = 1 ∨ j = 2) with rfl | rfl | rfl
        · exact ha
        · exact k1.2 hjj
        · exact k2.2 hjj
      · exact ⟨by dsimp only; omega, one⟩
    · split
      · rename_i c1
        rw [Bool.and_eq_true, Bool.and_eq_true, Bool.and_eq_true] at c1
        have k1 := hc 1 c1.1.1.2
        have k2 := hc 2 c1.1.2
        have k3 := hc 3 c1.2
        split
        · refine ⟨by dsimp only; omega, fun j hj hjj => ?_⟩
          dsimp only at hj
          rcases (by omega : j = 0 ∨ j = 1 ∨ j = 2 ∨ j = 3) with rfl | rfl | rfl | rfl
          · exact ha
          · exact k1.2 hjj
          · exact k2.2 hjj
          · exact k3.2 hjj
        · exact ⟨by dsimp only; omega, one⟩
      · exact ⟨by dsimp only; omega, one⟩
theorem noAny_high {s chars : ByteArray} {i k : Nat} (h : Lib.NoAny s.data.toList chars.data.toList i) (hc : ∀ b ∈ chars.data.toList, b.toNat < 128) (hi : ∀ j, j < k → ∀ hj : i + j < s.size, 128 ≤ (s[i + j]'hj).toNat) : Lib.NoAny s.data.toList chars.data.toList (i + k) := by
  intro j b hj hb
  by_cases hlt : j < i
  · exact h j b hlt hb
  · have hjs : j < s.size := by rw [Lib.size_eq]; exact (List.getElem?_eq_some_iff.1 hb).1
    have h1 := hi (j - i) (by omega) (by omega)
    have h2 := Lib.data_getElem? s j hjs
    rw [h2] at hb
    have e : i + (j - i) = j := by omega
    simp only [e] at h1
    rw [Option.some.inj hb] at h1
    cases hcc : chars.data.toList.contains b
    · rfl
    · have := hc b (by simpa using hcc)
      omega
theorem indexByte_high {s : List UInt8} {c : UInt8} (hs : ∀ b ∈ s, b.toNat < 128) (hc : 128 ≤ c.toNat) : Lib.indexByte s c = -1 := by
  induction s with
  | nil => rfl
  | cons b l ih =>
    have h1 := hs b (by simp)
    have hb : (b == c) = false := by
      rw [beq_eq_false_iff_ne]; rintro rfl; omega
    rw [Lib.indexByte, hb, ih fun x hx => hs x (by simp [hx])]
    simp
variable {P : Program} {ρ : Ren}
set_option maxHeartbeats 4000000 in
set_option maxRecDepth 1000000 in
theorem indexRune_err (L : Lays.n152 P ρ) (s : ByteArray) (w : World) (hs : ∀ b ∈ s.data.toList, b.toNat < 128) :
    Calls P (ρ.f 152) #[.string s, .int .i32 65533] w fun e w' => e = .returned (.int .i64 (-1)) ∧ Below w.heap.size w w' := by
  have t3 := L.t3; have a3 := L.a3; have z3 := L.z3; have v3 := L.v3
  have t4 := L.t4; have a4 := L.a4; have z4 := L.z4; have v4 := L.v4
  have t5 := L.t5; have a5 := L.a5; have z5 := L.z5; have v5 := L.v5
  have t9 := L.t9; have a9 := L.a9; have z9 := L.z9; have v9 := L.v9
  have t21 := L.t21; have a21 := L.a21; have z21 := L.z21; have v21 := L.v21
  have HS : Aside (∀ b ∈ s.data.toList, b.toNat < 128) := hs
  clear hs
  go_enter L.f152, Body.n152_ntmps ρ
  go_wp2
  go_loopg [] s.size (fun gf wx => ∃ pos : Nat, wx.heap[w.heap.size]? = some (.stringIter s pos) ∧ Below w.heap.size w wx ∧ s.size ≤ pos + gf)
  case atStart => exact ⟨0, World.iter_heap w s 0, (Below.refl _ w).alloc (Nat.le_refl _) _, by omega⟩
  case round =>
    obtain ⟨pos, hit, hbw, hfu⟩ := hrel
    by_cases hps : pos < s.size
    · obtain ⟨g', rfl⟩ : ∃ g', gk = g' + 1 := ⟨gk - 1, by omega⟩
      obtain ⟨x, hx⟩ : ∃ x : UInt8, s[pos]'hps = x := ⟨_, rfl⟩
      have hxl : s.data.toList[pos]? = some x := by rw [← hx]; exact Lib.data_getElem? s pos hps
      have hx128 : x.toNat < 128 := HS.out x (List.mem_of_getElem? hxl)
      have hnx : ∀ ty, (Instr.next (.pointer (some ⟨w.heap.size, 0, none⟩)) true ty).run P wr = _ := fun ty => Lib.run_next_ascii_at wr w.heap.size s pos ty hit hps (by rw [hx]; exact hx128)
      rw [hx] at hnx
      have hit2 := Lib.iterAt_heap wr w.heap.size s pos (pos + 1) hit
      have hbw2 := Lib.below_iterAt hbw (k := w.heap.size) (Nat.le_refl _) s (pos + 1)
      obtain ⟨W, hWd⟩ : ∃ W, wr.iterAt w.heap.size s (pos + 1) = W := ⟨_, rfl⟩
      rw [hWd] at hnx hit2 hbw2
      clear hx hxl
      go_wp2
      go_roundg g'
      case measure => omega
      case rel => exact ⟨pos + 1, hit2, hbw2, by omega⟩
    · have hnx : ∀ ty, (Instr.next (.pointer (some ⟨w.heap.size, 0, none⟩)) true ty).run P wr = _ := fun ty => Lib.run_next_end_at wr w.heap.size s pos ty hit hps
      go_wp2
      go_ret
      exact ⟨rfl, hbw⟩
theorem below_drewX (w : World) (n : Nat) : Below w.heap.size w (w.drewN n) := ⟨rfl, rfl, rfl, Nat.le_refl _, fun _ _ => rfl⟩
set_option maxHeartbeats 4000000 in
set_option maxRecDepth 1000000 in
theorem indexRune_bad (L : Lays.n152 P ρ) (s : ByteArray) (r : Int) (w : World) (h1 : 128 ≤ r) (h2 : ¬(r = 65533)) (hv : Lib.validRune r = false) :
    Calls P (ρ.f 152) #[.string s, .int .i32 r] w fun e w' => e = .returned (.int .i64 (-1)) ∧ w' = w := by
  have t3 := L.t3; have a3 := L.a3; have z3 := L.z3; have v3 := L.v3
  have t4 := L.t4; have a4 := L.a4; have z4 := L.z4; have v4 := L.v4
  have t5 := L.t5; have a5 := L.a5; have z5 := L.z5; have v5 := L.v5
  have t9 := L.t9; have a9 := L.a9; have z9 := L.z9; have v9 := L.v9
  have t21 := L.t21; have a21 := L.a21; have z21 := L.z21; have v21 := L.v21
  have hne : (r == 65533) = false := by simpa using h2
  have e119 : ∀ args w, (callFunc (ρ.f 119) args).run P w = .ok (.enter (ρ.f 119) args) w := enters_of L.f119 (by kernel_rfl) rfl
  go_enter L.f152, Body.n152_ntmps ρ
  go_wp2_with (go_at_fn (ρ.f 119); refine (Any.utf8_ValidRune { L with } _ _).mono ?_; rintro e w' ⟨rfl, hw⟩; rw [hw, hv])
  go_ret
  exact ⟨rfl, rfl⟩
set_option maxHeartbeats 4000000 in
set_option maxRecDepth 1000000 in
theorem indexRune_good (L : Lays.n152 P ρ) (s : ByteArray) (r : Int) (w : World) (h1 : 128 ≤ r) (h2 : ¬(r = 65533)) (hv : Lib.validRune r = true) (hs : ∀ b ∈ s.data.toList, b.toNat < 128) (h8 : s.size ≤ 8) :
    Calls P (ρ.f 152) #[.string s, .int .i32 r] w fun e w' => e = .returned (.int .i64 (-1)) ∧ Below w.heap.size w w' := by
  have mixed := L.mixed
  have t3 := L.t3; have a3 := L.a3; have z3 := L.z3; have v3 := L.v3
  have t4 := L.t4; have a4 := L.a4; have z4 := L.z4; have v4 := L.v4
  have t5 := L.t5; have a5 := L.a5; have z5 := L.z5; have v5 := L.v5
  have t9 := L.t9; have a9 := L.a9; have z9 := L.z9; have v9 := L.v9
  have t21 := L.t21; have a21 := L.a21; have z21 := L.z21; have v21 := L.v21
  have hne : (r == 65533) = false := by simpa using h2
  have hv2 : Utf8.valid r = true := by rw [Go.validRune_eq]; exact hv
  obtain ⟨q, hq⟩ : ∃ q, Utf8.encode r = q := ⟨_, rfl⟩
  obtain ⟨k1, k2, k3⟩ := encode_facts r hv2 h1
  rw [hq] at k1 k2
  obtain ⟨c, hc⟩ : ∃ c : UInt8, q[q.size - 1]'(by omega) = c := ⟨_, rfl⟩
  have hc128 : 128 ≤ c.toNat := by rw [← hc]; subst hq; exact k3 (by omega)
  clear k3
  have hcv : ∀ W, (convert (ρ.t 21) (ρ.t 9) (.int .i32 r)).run P W = .ok (.string q) W := fun W => by rw [run_convert_int_string W _ _ _ _ (by rw [t21]; rfl) t9, hq]
  clear hq
  obtain ⟨l, hl⟩ : ∃ l : Nat, q.size = l + 1 := ⟨q.size - 1, by omega⟩
  have hlq : l < q.size := by omega
  have hc2 : q[l]'hlq = c := by rw [← hc]; congr 1; omega
  clear hc
  have hqi : ∀ W, (Instr.index (ρ.t 9) (.string q) (.int .i64 (l : Int))).run P W = .ok (.int .u8 c.toNat) W := fun W => by
    rw [run_index_string W _ _ _ _ t9, dif_pos ⟨by omega, by omega⟩]
    simp only [Int.toNat_natCast, hc2]
  clear hc2
  have hw1 : IntKind.i64.wrap ((q.size : Int) - 1) = (l : Int) := by rw [wrap_small _ (by omega) (by omega)]; omega
  have HS : Aside (∀ b ∈ s.data.toList, b.toNat < 128) := hs
  clear hs
  have e119 : ∀ args w, (callFunc (ρ.f 119) args).run P w = .ok (.enter (ρ.f 119) args) w := enters_of L.f119 (by kernel_rfl) rfl
  have e137 : ∀ args w, (callFunc (ρ.f 137) args).run P w = .ok (.enter (ρ.f 137) args) w := enters_of L.f137 (by kernel_rfl) rfl
  go_enter L.f152, Body.n152_ntmps ρ
  go_wp2_with (go_at_fn (ρ.f 119); refine (Any.utf8_ValidRune { L with } _ _).mono ?_; rintro e w' ⟨rfl, hw⟩; rw [hw, hv])
  go_step3
  go_wp2
  go_loopg [9, 10] 1 (fun gf s9 s10 wx => s9 = .int .i64 (l : Int) ∧ s10 = .int .i64 0 ∧ wx = w ∧ gf = 1)
  case atStart => exact ⟨rfl, rfl, rfl, rfl⟩
  case round =>
    obtain ⟨rfl, rfl, rfl, rfl⟩ := hrel
    by_cases hls : l < s.size
    · obtain ⟨x, hx⟩ : ∃ x : UInt8, s[l]'hls = x := ⟨_, rfl⟩
      have hx128 : x.toNat < 128 := HS.out x (by rw [← hx]; exact List.mem_of_getElem? (Lib.data_getElem? s l hls))
      have hxc : ((x.toNat : Int) == (c.toNat : Int)) = false := by rw [beq_eq_false_iff_ne]; omega
      go_wp2
      go_step3
      obtain ⟨y, hy⟩ : ∃ y, s.extract (l + 1) s.size = y := ⟨_, rfl⟩
      have hsl : ∀ W, (Instr.slice (ρ.t 9) (.string s) (some (.int .i64 ((l : Int) + 1))) none none).run P W = .ok (.string y) W := fun W => by
        rw [run_slice_string_l W (ρ.t 9) s t9 .i64 _ (by omega) (by omega), ← hy]; rfl
      have hib : Lib.indexByte y.data.toList c = -1 := indexByte_high (fun b hb => HS.out b (mem_extract (by rw [hy]; exact hb))) hc128
      have hw2 : IntKind.i64.wrap ((l : Int) + 1) = (l : Int) + 1 := wrap_small _ (by omega) (by omega)
      have hback : ((c.toNat : Int)).toNat.toUInt8 = c := by simp
      clear hy
      go_wp2_with fail
      go_quiet_o (fail)
      go_wp2_with fail
      go_region_with_o (
        go_at_fn (ρ.f 137)
        refine (Any.strings_IndexByte { L with } _ _ _).mono ?_
        rintro e w1 ⟨rfl, hw⟩
        rw [hw, hback, hib])
      all_goals (
        go_wp2
        rw [Exit.noGoto_ret]
        go_wp2
        rw [Exit.noGoto_ret]
        go_ret
        exact ⟨rfl, below_drewX _ _⟩)
    · go_wp2
      rw [Exit.noGoto_ret]
      go_ret
      exact ⟨rfl, Below.refl _ _⟩
theorem indexRune_high (L : Lays.n152 P ρ) (s : ByteArray) (r : Int) (w : World) (h1 : 128 ≤ r) (hs : ∀ b ∈ s.data.toList, b.toNat < 128) (h8 : s.size ≤ 8) :
    Calls P (ρ.f 152) #[.string s, .int .i32 r] w fun e w' => e = .returned (.int .i64 (-1)) ∧ Below w.heap.size w w' := by
  by_cases h2 : r = 65533
  · subst h2
    exact indexRune_err L s w hs
  · cases hv : Lib.validRune r
    · exact (indexRune_bad L s r w h1 h2 hv).mono fun e w' ⟨h3, h4⟩ => ⟨h3, h4 ▸ Below.refl _ _⟩
    · exact indexRune_good L s r w h1 h2 hv hs h8
set_option maxHeartbeats 8000000 in
set_option maxRecDepth 1000000 in
theorem indexAny_short (L : Lays.n153 P ρ) (s chars : ByteArray) (w : World) (h2 : 2 ≤ chars.size) (hc8 : chars.size ≤ 8) (h8 : s.size ≤ 8) (hascii : ∀ b ∈ chars.data.toList, b.toNat < 128) :
    Calls P (ρ.f 153) #[.string s, .string chars] w fun e w' => e = .returned (.int .i64 (Lib.indexAny s.data.toList chars.data.toList)) ∧ Below w.heap.size w w' := by
  have HA : Aside (∀ b ∈ chars.data.toList, b.toNat < 128) := hascii
  clear hascii
  have hemp : chars.toList.isEmpty = false := by
    rw [Lib.toList_data]
    cases h : chars.data.toList with
    | nil => have := Lib.size_eq chars; rw [h, List.length_nil] at this; omega
    | cons _ _ => rfl
  have hn1 : ((chars.size : Int) == 1) = false := beq_eq_false_iff_ne.2 (by omega)
  have h8z : decide ((8 : Int) < (s.size : Int)) = false := decide_eq_false (by omega)
  have t3 := L.t3; have a3 := L.a3; have z3 := L.z3; have v3 := L.v3
  have t4 := L.t4; have a4 := L.a4; have z4 := L.z4; have v4 := L.v4
  have t5 := L.t5; have a5 := L.a5; have z5 := L.z5; have v5 := L.v5
  have t9 := L.t9; have a9 := L.a9; have z9 := L.z9; have v9 := L.v9
  have t21 := L.t21; have a21 := L.a21; have z21 := L.z21; have v21 := L.v21
  have e152 : ∀ args w, (callFunc (ρ.f 152) args).run P w = .ok (.enter (ρ.f 152) args) w := enters_of L.f152 (by kernel_rfl) rfl
  have e226 : ∀ args w, (callFunc (ρ.f 226) args).run P w = .ok (.enter (ρ.f 226) args) w := enters_of L.f226 (by kernel_rfl) rfl
  go_enter L.f153, Body.n153_ntmps ρ
  go_wp2_with (go_at_fn (ρ.f 226); refine (Any.strings_shouldUseASCIISet { L with } _ _).mono ?_; rintro e w' ⟨rfl, hw⟩; rw [hw, h8z])
  go_loopg [9, 10] s.size (fun g _ _ wx => ∃ i : Nat, s.size ≤ i + g ∧ i ≤ s.size ∧ wx.heap[w.heap.size]? = some (.stringIter s i) ∧ Below w.heap.size w wx ∧ Lib.NoAny s.data.toList chars.data.toList i)
  case atStart => exact ⟨0, by omega, Nat.zero_le _, World.iter_heap w s 0, (Below.refl _ w).alloc (Nat.le_refl _) _, Lib.NoAny.zero _ _⟩
  case round =>
    obtain ⟨i, hig, hile, hit, hbw, hno⟩ := hrel
    have HN : Aside (Lib.NoAny s.data.toList chars.data.toList i) := hno
    clear hno
    by_cases hi : i < s.size
    · obtain ⟨g', rfl⟩ : ∃ g', gk = g' + 1 := ⟨gk - 1, by omega⟩
      obtain ⟨x, hx⟩ : ∃ x : UInt8, s[i]'hi = x := ⟨_, rfl⟩
      have hxl : s.data.toList[i]? = some x := by rw [← hx]; exact Lib.data_getElem? s i hi
      by_cases hx128 : x.toNat < 128
      · have hnx : ∀ ty, (Instr.next (.pointer (some ⟨w.heap.size, 0, none⟩)) true ty).run P wr = _ := fun ty => Lib.run_next_ascii_at wr w.heap.size s i ty hit hi (by rw [hx]; exact hx128)
        rw [hx] at hnx
        have Hx : Aside (s.data.toList[i]? = some x) := hxl
        clear hxl hx
        have hit2 := Lib.iterAt_heap wr w.heap.size s i (i + 1) hit
        have hbw2 := Lib.below_iterAt hbw (k := w.heap.size) (Nat.le_refl _) s (i + 1)
        obtain ⟨W, hWd⟩ : ∃ W, wr.iterAt w.heap.size s (i + 1) = W := ⟨_, rfl⟩
        rw [hWd] at hnx hit2 hbw2
        clear hWd
        have hcon := Lib.contains_iff_indexByte chars.data.toList x
        have hback : ((x.toNat : Int)).toNat.toUInt8 = x := by simp
        cases hin : chars.data.toList.contains x
        · rw [hin] at hcon
          have hlt : ¬ ((0 : Int) ≤ Lib.indexByte chars.data.toList x) := of_decide_eq_false hcon.symm
          clear hcon
          go_wp2_with (go_at_fn (ρ.f 152); refine (Any.strings_IndexRune_ascii { L with } _ _ _ (by omega) (by omega)).mono ?_; rintro e w' ⟨rfl, hw⟩; rw [hw, hback])
          go_roundg g'
          case measure => omega
          case rel => exact ⟨i + 1, by omega, by omega, hit2, hbw2, HN.out.succ Hx.out hin⟩
        · rw [hin] at hcon
          have hge : (0 : Int) ≤ Lib.indexByte chars.data.toList x := of_decide_eq_true hcon.symm
          clear hcon
          go_wp2_with (go_at_fn (ρ.f 152); refine (Any.strings_IndexRune_ascii { L with } _ _ _ (by omega) (by omega)).mono ?_; rintro e w' ⟨rfl, hw⟩; rw [hw, hback])
          go_ret
          exact ⟨by rw [Lib.indexAny_hit HN.out Hx.out hin]; rfl, hbw2⟩
      · have h128 : 128 ≤ (s[i]'hi).toNat := by rw [hx]; omega
        have hnx : ∀ ty, (Instr.next (.pointer (some ⟨w.heap.size, 0, none⟩)) true ty).run P wr = _ := fun ty => Lib.run_next_any_at wr w.heap.size s i ty hit hi
        obtain ⟨hr1, hk1⟩ := decode_high s i hi h128
        obtain ⟨hk2, hk3⟩ := decode_bytes s i hi h128
        have HN2 : Aside (Lib.NoAny s.data.toList chars.data.toList (i + (Utf8.decode s i).2)) := noAny_high HN.out HA.out hk3
        clear hk3
        obtain ⟨R, hR⟩ : ∃ R, (Utf8.decode s i).1 = R := ⟨_, rfl⟩
        obtain ⟨K, hK⟩ : ∃ K, (Utf8.decode s i).2 = K := ⟨_, rfl⟩
        rw [hR, hK] at hnx
        rw [hK] at hk1 hk2 HN2
        rw [hR] at hr1
        clear hR hK hxl hx
        have hit2 := Lib.iterAt_heap wr w.heap.size s i (i + K) hit
        have hbw2 := Lib.below_iterAt hbw (k := w.heap.size) (Nat.le_refl _) s (i + K)
        obtain ⟨W, hWd⟩ : ∃ W, wr.iterAt w.heap.size s (i + K) = W := ⟨_, rfl⟩
        rw [hWd] at hnx hit2 hbw2
        clear hWd
        have hltW : w.heap.size < W.heap.size := (Array.getElem?_eq_some_iff.1 hit2).1
        go_wp2_with (go_at_fn (ρ.f 152); refine (indexRune_high { L with } _ _ _ (by omega) HA.out hc8).mono ?_; rintro e w' ⟨rfl, hbc⟩)
        go_roundg g'
        case measure => omega
        case rel => exact ⟨i + K, by omega, by omega, (hbc.block _ hltW).trans hit2, (hbw2.trans (hbc.mono hbw2.size)), HN2.out⟩
    · obtain rfl : i = s.size := by omega
      have hnx : ∀ ty, (Instr.next (.pointer (some ⟨w.heap.size, 0, none⟩)) true ty).run P wr = _ := fun ty => Lib.run_next_end_at wr w.heap.size s s.size ty hit hi
      go_wp2
      go_ret
      exact ⟨by rw [Lib.indexAny_none (by rw [← Lib.size_eq]; exact HN.out)]; rfl, hbw⟩
end
theorem idx_short (s : List UInt8) (Hs : s.length ≤ 8) : Gives Tryz.prog 107 [S s, S [32, 40, 41]] (I (idxD s)) := by
  refine ac_of_calls (R := fun v => v = _) Tryz.call107 fun w T J τ ρ vs hG hI hA => ?_
  obtain ⟨x, y, rfl, hx, hy⟩ := reps_two hA
  obtain ⟨rfl, hx2⟩ := rep_str hx
  obtain ⟨rfl, hy2⟩ := rep_str hy
  have hsz : (⟨s.toArray⟩ : ByteArray).size = s.length := by simp [ByteArray.size]
  refine Calls.mono (indexAny_short Tryz.lays153 ⟨s.toArray⟩ ⟨#[32, 40, 41]⟩ w (by decide) (by decide) (by omega) (by decide)) fun e w' ⟨h1, h2⟩ => ?_
  have h3 : Lib.indexAny s [32, 40, 41] = idxD s := indexAny_idxD s
  exact ⟨_, _, J, h1, (by show I _ = I _; rw [show Lib.indexAny (⟨s.toArray⟩ : ByteArray).data.toList (⟨#[32, 40, 41]⟩ : ByteArray).data.toList = idxD s from h3]), h2, NewI.old hI h2, .d _ _ (.int _ _)⟩
theorem idx_all : HIdx := fun s hs => by
  by_cases h8 : 8 < s.length
  · exact idx_some s hs (.inl h8)
  · exact idx_short s (by omega)
end Go.Proofs.YtaolcbhncnpldaaGreatDoor
