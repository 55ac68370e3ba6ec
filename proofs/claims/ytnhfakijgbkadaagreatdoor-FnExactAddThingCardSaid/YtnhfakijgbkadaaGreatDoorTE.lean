/- Walks of functions of the cut by the abstract logic, and what they compute. Filled by a program of mine from a template. -/
import Derived.Test.YtnhfakijgbkadaaGreatDoorTW
namespace Go.Proofs.YtnhfakijgbkadaaGreatDoor
open Go Go.AL
set_option linter.unusedSimpArgs false
set_option linter.unusedVariables false
/-! ### Reading fields: plain law -/
theorem fieldT_nb {f : Field} (h : nameB f.name = true) : ∀ b ∈ fieldT f, b ≠ 32 := by
  intro b hb
  unfold fieldT at hb
  rcases List.mem_append.1 hb with hb | hb
  · have := (nameB_bytes h).1 b hb
    rintro rfl; revert this; decide
  · rcases List.mem_cons.1 hb with rfl | hb
    · decide
    · exact (valT_bytes _ _ b hb).1
theorem name_ne61 {s : List UInt8} (h : nameB s = true) : ∀ b ∈ s, b ≠ 61 := fun b hb => by
  have := (nameB_bytes h).1 b hb
  rintro rfl; revert this; decide
theorem cut_field {f : Field} (h : nameB f.name = true) : Lib.cut (fieldT f) [61] = (f.name, valT f.kind f.number, true) := cut_hit (name_ne61 h)
theorem l21F_text {f : Field} (h : nameB f.name = true) (hv : valB f.kind f.number 100 = true) : l21F (fieldT f) = f := by
  unfold l21F
  rw [cut_field h]
  simp only [if_true, l21V_text hv]
open Classical in
noncomputable def readF (s : List UInt8) : Option (List Field) := if h : ∃ l : List Field, fieldsB l 7 = true ∧ fieldsT l = s then some h.choose else none
/-- A word that is a field's text. -/
noncomputable def goodW (w : List UInt8) : Bool := (Lib.cut w [61]).2.2 && (readV (Lib.cut w [61]).2.1).isSome
theorem goodW_text {f : Field} (h : nameB f.name = true) (hv : valB f.kind f.number 100 = true) : goodW (fieldT f) = true := by
  unfold goodW
  rw [cut_field h, readV_text hv]; rfl
theorem good_l21F {w : List UInt8} (h : goodW w = true) : l21F w = ⟨(Lib.cut w [61]).1, fo1 (readV (Lib.cut w [61]).2.1), fo2 (readV (Lib.cut w [61]).2.1)⟩ := by
  simp only [goodW, Bool.and_eq_true] at h
  obtain ⟨⟨k, n⟩, hr⟩ := Option.isSome_iff_exists.1 h.2
  obtain ⟨h1, h2⟩ := readV_some hr
  unfold l21F
  rw [if_pos h.1, hr, ← h2, l21V_text h1]
  rfl
def rfA (o : Option (List Field)) : AV := .tup [LF (o.getD []), .d (.bool o.isSome)]
/-! ### The readers -/
theorem readField_ok (s : List UInt8) (Hs : s.length ≤ 4294967000) : Gives Tryz.prog 33 [S s] (.tup [.agg [.str (Lib.cut s [61]).1, .int .i64 (fo1 (readV (Lib.cut s [61]).2.1)), .int .i64 (fo2 (readV (Lib.cut s [61]).2.1))], .d (.bool (goodW s))]) := by
  refine ac_of_body TT Tryz.call33 Tryz.func33 rfl (by simp [Tryz.ntmps33]) (by kernel_rfl) fun E hk => ?_
  (repeat' (first | with_reducible (first | refine awp_seq ?_ | refine awp_block ?_ | refine awp_skip ?_ | refine awp_exit ?_ | refine awp_ret ?_ | refine athen_normal ?_ | refine athen_ret ?_ | refine athen_exit ?_ | refine ablock_normal ?_ | refine ablock_ret ?_ | refine ablock_here ?_ | refine ablock_far rfl ?_ | (refine hK _ ?_; clear K hK) | refine awp_cond_t rfl ?_ | refine awp_cond_f rfl ?_ | intro hfact) | (with_reducible refine And.intro ?_ ?_; focus (first | assumption | omega | (simp; done) | ((repeat' apply And.intro) <;> first | assumption | omega) | ((repeat' split) <;> omega))) | ((first | with_reducible (first | ((refine awp_seqr TT ?_); intro K hK) | ((refine awp_region TT ?_); intro K hK) | ((refine awp_seqrF TT [] MX (by kernel_rfl) (by kernel_rfl) ?_); intro K hK) | ((refine awp_regionF TT [] MX (by kernel_rfl) (by kernel_rfl) ?_); intro K hK)) | (with_reducible (first | refine guard_split_t TT E (fun hb => ?_) (fun hb => ?_) | refine guard_split_f TT E (fun hb => ?_) (fun hb => ?_) | refine guardD_split_t TT _ _ (fun hb => ?_) (fun hb => ?_) | refine guardD_split_f TT _ _ (fun hb => ?_) (fun hb => ?_)) <;> try simp only [hb]) | ((first | refine callK_pure TT E (cut_ok _ _ (by first | assumption | omega | (refine (?_ : (0 : Int) ≤ _ → _) ?_ <;> first | assumption | omega) | (simp; done) | (simp; omega))) rfl rfl ?_ | refine callKD_pure TT _ _ (cut_ok _ _ (by first | assumption | omega | (refine (?_ : (0 : Int) ≤ _ → _) ?_ <;> first | assumption | omega) | (simp; done) | (simp; omega))) rfl rfl ?_); intro m hm; try dsimp only at hm) | ((first | refine callK_pure TT E (readV_ok _) rfl rfl ?_ | refine callKD_pure TT _ _ (readV_ok _) rfl rfl ?_); intro m hm; try dsimp only at hm)) <;> simp only [go_sem, ↓reduceIte, Int.reduceBEq, Int.reduceBNe, Nat.reduceEqDiff, Nat.reduceAdd, Nat.reduceMul, Nat.reduceSub, Nat.reduceLT, Nat.reduceBEq, Nat.reduceLeDiff, reduceCtorEq, Int.reduceToNat, Int.reduceNeg, Int.reduceEq, Int.reduceLE, Int.reduceLT, rvA])))
  all_goals (refine ret_gives TT (by simp only [go_sem, ↓reduceIte, Nat.reduceEqDiff, Nat.reduceAdd, Nat.reduceLT, Nat.reduceLeDiff, reduceCtorEq, Tryz.results33]; rfl) rfl ?_; simp [resV, goodW, hb])
theorem words_cnt (s : List UInt8) : (wordsT s).length ≤ s.length + 2 := by
  have h1 := count_eq s
  have h2 := Lib.count_le s [32]
  omega
end Go.Proofs.YtnhfakijgbkadaaGreatDoor
