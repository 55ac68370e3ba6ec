/- Walks of functions of the cut by the abstract logic, and what they compute. Filled by a program of mine from a template. -/
import Derived.Test.YtnhfakijgbkadaaGreatDoorTV
namespace Go.Proofs.YtnhfakijgbkadaaGreatDoor
open Go Go.AL
set_option linter.unusedSimpArgs false
set_option linter.unusedVariables false
/-! ### Texts of fields -/
theorem fieldT_len (f : Field) : (fieldT f).length ≤ f.name.length + 4 := by
  have := valT_len f.kind f.number
  unfold fieldT
  rw [List.length_append, List.length_cons]; omega
theorem fieldText_ok (nm : List UInt8) (k n : Int) (Hn : nm.length ≤ 1000) : Gives Tryz.prog 54 [.agg [.str nm, .int .i64 k, .int .i64 n]] (S (fieldT ⟨nm, k, n⟩)) := by
  refine ac_of_body TT Tryz.call54 Tryz.func54 rfl (by simp [Tryz.ntmps54]) (by kernel_rfl) fun E hk => ?_
  have h1 := valT_len k n
  (repeat' (first | with_reducible (first | refine awp_seq ?_ | refine awp_block ?_ | refine awp_skip ?_ | refine awp_exit ?_ | refine awp_ret ?_ | refine athen_normal ?_ | refine athen_ret ?_ | refine athen_exit ?_ | refine ablock_normal ?_ | refine ablock_ret ?_ | refine ablock_here ?_ | refine ablock_far rfl ?_ | (refine hK _ ?_; clear K hK) | refine awp_cond_t rfl ?_ | refine awp_cond_f rfl ?_ | intro hfact) | (with_reducible refine And.intro ?_ ?_; focus (first | assumption | omega | (simp; done) | ((repeat' apply And.intro) <;> first | assumption | omega) | ((repeat' split) <;> omega))) | ((first | with_reducible (first | ((refine awp_seqr TT ?_); intro K hK) | ((refine awp_region TT ?_); intro K hK) | ((refine awp_seqrF TT [] MX (by kernel_rfl) (by kernel_rfl) ?_); intro K hK) | ((refine awp_regionF TT [] MX (by kernel_rfl) (by kernel_rfl) ?_); intro K hK)) | (with_reducible (first | refine guard_split_t TT E (fun hb => ?_) (fun hb => ?_) | refine guard_split_f TT E (fun hb => ?_) (fun hb => ?_) | refine guardD_split_t TT _ _ (fun hb => ?_) (fun hb => ?_) | refine guardD_split_f TT _ _ (fun hb => ?_) (fun hb => ?_)) <;> try simp only [hb]) | ((first | refine callK_pure TT E (valText_ok _ _) rfl rfl ?_ | refine callKD_pure TT _ _ (valText_ok _ _) rfl rfl ?_); intro m hm; try dsimp only at hm)) <;> simp only [go_sem, ↓reduceIte, Int.reduceBEq, Int.reduceBNe, Nat.reduceEqDiff, Nat.reduceAdd, Nat.reduceMul, Nat.reduceSub, Nat.reduceLT, Nat.reduceBEq, Nat.reduceLeDiff, reduceCtorEq, Int.reduceToNat, Int.reduceNeg, Int.reduceEq, Int.reduceLE, Int.reduceLT, List.length_append, List.length_cons, List.length_nil])))
  refine ret_gives TT (by simp only [go_sem, ↓reduceIte, Nat.reduceEqDiff, Nat.reduceAdd, Nat.reduceLT, Nat.reduceLeDiff, reduceCtorEq, Tryz.results54]; rfl) rfl ?_; simp [resV, fieldT]
/-- The texts of fields, each with a blank before it. -/
def flatT (l : List Field) : List UInt8 := (l.map fun f => 32 :: fieldT f).flatten
theorem flatT_snoc (l : List Field) (f : Field) : flatT (l ++ [f]) = flatT l ++ 32 :: fieldT f := by simp [flatT]
theorem flatT_len : ∀ (l : List Field), (∀ f ∈ l, f.name.length ≤ 8) → (flatT l).length ≤ 13 * l.length
  | [], _ => by simp [flatT]
  | f :: l, h => by
    have h1 := h f (by simp)
    have h2 := flatT_len l fun x hx => h x (by simp [hx])
    have h3 := fieldT_len f
    unfold flatT at h2 ⊢
    simp only [List.map_cons, List.flatten_cons, List.length_append, List.length_cons]
    omega
def fieldsT (l : List Field) : List UInt8 := if fieldsB l 7 then Lib.join (l.map fieldT) [32] else []
theorem l21Fields_ok (l : List Field) (Hn : ∀ f ∈ l, f.name.length ≤ 8) (Hl : l.length ≤ 1000) : Gives Tryz.prog 26 [LF l] (S (flatT l)) := by
  refine ac_of_body TT Tryz.call26 Tryz.func26 rfl (by simp [Tryz.ntmps26]) (by kernel_rfl) fun E hk => ?_
  (repeat' (first | with_reducible (first | refine awp_seq ?_ | refine awp_block ?_ | refine awp_skip ?_ | refine awp_exit ?_ | refine awp_ret ?_ | refine athen_normal ?_ | refine athen_ret ?_ | refine athen_exit ?_ | refine ablock_normal ?_ | refine ablock_ret ?_ | refine ablock_here ?_ | refine ablock_far rfl ?_ | (refine hK _ ?_; clear K hK) | refine awp_cond_t rfl ?_ | refine awp_cond_f rfl ?_ | intro hfact) | (with_reducible refine And.intro ?_ ?_; focus (first | assumption | omega | (simp; done) | ((repeat' apply And.intro) <;> first | assumption | omega) | ((repeat' split) <;> omega))) | ((first | with_reducible (first | ((refine awp_seqr TT ?_); intro K hK) | ((refine awp_region TT ?_); intro K hK) | ((refine awp_seqrF TT [] MX (by kernel_rfl) (by kernel_rfl) ?_); intro K hK) | ((refine awp_regionF TT [] MX (by kernel_rfl) (by kernel_rfl) ?_); intro K hK)) | (with_reducible (first | refine guard_split_t TT E (fun hb => ?_) (fun hb => ?_) | refine guard_split_f TT E (fun hb => ?_) (fun hb => ?_) | refine guardD_split_t TT _ _ (fun hb => ?_) (fun hb => ?_) | refine guardD_split_f TT _ _ (fun hb => ?_) (fun hb => ?_)) <;> try simp only [hb]) | ((first | refine callK_pure TT E (svalText_ok _ _) rfl rfl ?_ | refine callKD_pure TT _ _ (svalText_ok _ _) rfl rfl ?_); intro m hm; try dsimp only at hm)) <;> simp only [go_sem, ↓reduceIte, Int.reduceBEq, Int.reduceBNe, Nat.reduceEqDiff, Nat.reduceAdd, Nat.reduceMul, Nat.reduceSub, Nat.reduceLT, Nat.reduceBEq, Nat.reduceLeDiff, reduceCtorEq, Int.reduceToNat, Int.reduceNeg, Int.reduceEq, Int.reduceLE, Int.reduceLT])))
  refine awp_zip (l) (List.length (l)) 0 [] [0] (fun k st => [(3, S (flatT (l.take k))), (4, I k)]) (fun obs k st => obs) (fun k st => []) (fun k rest st nt => True) (()) (by first | rfl | (simp; done) | (simp; omega)) (by first | rfl | (simp only [go_sem, ↓reduceIte, Nat.reduceEqDiff, Nat.reduceAdd, Nat.reduceLT, Nat.reduceLeDiff, reduceCtorEq]; done) | (simp only [go_sem, ↓reduceIte, Nat.reduceEqDiff, Nat.reduceAdd, Nat.reduceLT, Nat.reduceLeDiff, reduceCtorEq]; simp; done)) (by simp only [go_sem, ↓reduceIte, Nat.reduceEqDiff, Nat.reduceAdd, Nat.reduceLT, Nat.reduceLeDiff, reduceCtorEq]; rfl) (by first | rfl | (simp only [go_sem, ↓reduceIte, Nat.reduceEqDiff, Nat.reduceAdd, Nat.reduceLT, Nat.reduceLeDiff, reduceCtorEq]; rfl)) (trivial) (by unfold ASubW; simp only [go_sem, ↓reduceIte, Nat.reduceEqDiff, Nat.reduceAdd, Nat.reduceLT, Nat.reduceLeDiff, reduceCtorEq, hk]; try simp [flatT]) ?_ ?_
  · rintro st nt hmax _
    rw [List.take_length]
    (repeat' (first | with_reducible (first | refine awp_seq ?_ | refine awp_block ?_ | refine awp_skip ?_ | refine awp_exit ?_ | refine awp_ret ?_ | refine athen_normal ?_ | refine athen_ret ?_ | refine athen_exit ?_ | refine ablock_normal ?_ | refine ablock_ret ?_ | refine ablock_here ?_ | refine ablock_far rfl ?_ | (refine hK _ ?_; clear K hK) | refine awp_cond_t rfl ?_ | refine awp_cond_f rfl ?_ | intro hfact) | (with_reducible refine And.intro ?_ ?_; focus (first | assumption | omega | (simp; done) | ((repeat' apply And.intro) <;> first | assumption | omega) | ((repeat' split) <;> omega))) | ((first | with_reducible (first | ((refine awp_seqr TT ?_); intro K hK) | ((refine awp_region TT ?_); intro K hK) | ((refine awp_seqrF TT [] MX (by kernel_rfl) (by kernel_rfl) ?_); intro K hK) | ((refine awp_regionF TT [] MX (by kernel_rfl) (by kernel_rfl) ?_); intro K hK)) | (with_reducible (first | refine guard_split_t TT E (fun hb => ?_) (fun hb => ?_) | refine guard_split_f TT E (fun hb => ?_) (fun hb => ?_) | refine guardD_split_t TT _ _ (fun hb => ?_) (fun hb => ?_) | refine guardD_split_f TT _ _ (fun hb => ?_) (fun hb => ?_)) <;> try simp only [hb]) | ((first | refine callK_pure TT E (svalText_ok _ _) rfl rfl ?_ | refine callKD_pure TT _ _ (svalText_ok _ _) rfl rfl ?_); intro m hm; try dsimp only at hm)) <;> simp only [go_sem, ↓reduceIte, Int.reduceBEq, Int.reduceBNe, Nat.reduceEqDiff, Nat.reduceAdd, Nat.reduceMul, Nat.reduceSub, Nat.reduceLT, Nat.reduceBEq, Nat.reduceLeDiff, reduceCtorEq, Int.reduceToNat, Int.reduceNeg, Int.reduceEq, Int.reduceLE, Int.reduceLT])))
    refine ret_gives TT (by simp only [go_sem, ↓reduceIte, Nat.reduceEqDiff, Nat.reduceAdd, Nat.reduceLT, Nat.reduceLeDiff, reduceCtorEq, Tryz.results26]; rfl) rfl ?_; rfl
  · rintro k x rest st nt hA _
    have h1 := flatT_len (l.take k) fun f hf => Hn f (List.mem_of_mem_take hf)
    have h2 : (l.take k).length ≤ 1000 := by simp; omega
    have h3 := fieldT_len x
    have h4 := Hn x hA.mem
    have h5 := valT_len x.kind x.number
    have hs := flatT_snoc (l.take k) x
    rw [← hA.snoc] at hs
    (repeat' (first | with_reducible (first | refine awp_seq ?_ | refine awp_block ?_ | refine awp_skip ?_ | refine awp_exit ?_ | refine awp_ret ?_ | refine athen_normal ?_ | refine athen_ret ?_ | refine athen_exit ?_ | refine ablock_normal ?_ | refine ablock_ret ?_ | refine ablock_here ?_ | refine ablock_far rfl ?_ | (refine hK _ ?_; clear K hK) | refine awp_cond_t rfl ?_ | refine awp_cond_f rfl ?_ | intro hfact) | (with_reducible refine And.intro ?_ ?_; focus (first | assumption | omega | (simp; done) | ((repeat' apply And.intro) <;> first | assumption | omega) | ((repeat' split) <;> omega))) | ((first | with_reducible (first | ((refine awp_seqr TT ?_); intro K hK) | ((refine awp_region TT ?_); intro K hK) | ((refine awp_seqrF TT [] MX (by kernel_rfl) (by kernel_rfl) ?_); intro K hK) | ((refine awp_regionF TT [] MX (by kernel_rfl) (by kernel_rfl) ?_); intro K hK)) | (with_reducible (first | refine guard_split_t TT E (fun hb => ?_) (fun hb => ?_) | refine guard_split_f TT E (fun hb => ?_) (fun hb => ?_) | refine guardD_split_t TT _ _ (fun hb => ?_) (fun hb => ?_) | refine guardD_split_f TT _ _ (fun hb => ?_) (fun hb => ?_)) <;> try simp only [hb]) | ((first | refine callK_pure TT E (svalText_ok _ _) rfl rfl ?_ | refine callKD_pure TT _ _ (svalText_ok _ _) rfl rfl ?_); intro m hm; try dsimp only at hm)) <;> simp only [go_sem, ↓reduceIte, Int.reduceBEq, Int.reduceBNe, Nat.reduceEqDiff, Nat.reduceAdd, Nat.reduceMul, Nat.reduceSub, Nat.reduceLT, Nat.reduceBEq, Nat.reduceLeDiff, reduceCtorEq, Int.reduceToNat, Int.reduceNeg, Int.reduceEq, Int.reduceLE, Int.reduceLT, hA.d, hA.w, hA.lt, hA.g, encF, List.length_append, List.length_cons, List.length_nil])))
    refine ⟨(), trivial, (by unfold ASubW; simp only [go_sem, ↓reduceIte, Nat.reduceEqDiff, Nat.reduceAdd, Nat.reduceLT, Nat.reduceLeDiff, reduceCtorEq, hk, hs, fieldT]; try simp)⟩
theorem fields_names {l : List Field} {m : Int} (h : fieldsB l m = true) : (∀ f ∈ l, f.name.length ≤ 8) ∧ l.length ≤ 4 := by
  refine ⟨fun f hf => ?_, ?_⟩
  · have h1 := (fieldsMem h f hf).1
    exact (nameB_bytes h1).2.2
  · simp only [fieldsB, Bool.and_eq_true, decide_eq_true_eq] at h
    omega
theorem mapT_snoc (l : List Field) (x : Field) : (l ++ [x]).map fieldT = l.map fieldT ++ [fieldT x] := by simp
end Go.Proofs.YtnhfakijgbkadaaGreatDoor
