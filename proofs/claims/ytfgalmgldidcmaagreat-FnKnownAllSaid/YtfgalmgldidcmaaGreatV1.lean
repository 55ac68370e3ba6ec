/- Walks of functions of the cut by the abstract logic, and what they compute. Filled by a program of mine from a template. -/
import Derived.Test.YtfgalmgldidcmaaGreatE1
namespace Go.Proofs.YtfgalmgldidcmaaGreat
open Go Go.AL
set_option linter.unusedSimpArgs false
set_option linter.unusedVariables false
def partsN (k : Int) : Int := if k = 8 ∨ k = 9 ∨ k = 13 then 1 else if k = 10 ∨ k = 11 ∨ k = 12 ∨ k = 14 ∨ k = 15 then 2 else 0
def namedB (k : Int) : Bool := decide (k = 7 ∨ k = 8 ∨ k = 9)
def greatN (k : Int) : Int := if k = 1 then 1 else if k = 2 then 99 else if k = 3 then 6 else 0
theorem partsN_le (k : Int) : 0 ≤ partsN k ∧ partsN k ≤ 2 := by unfold partsN; (repeat' split) <;> omega
/-- What one expression must be, whatever its parts are. -/
def nodeB (k n : Int) (nm : List UInt8) (len : Nat) : Bool := inB k 1 15 && inB n 0 (greatN k) && ((len : Int) == partsN k) && (namedB k == !(nm == [])) && (!namedB k || nameB nm)

theorem partsOf_ok (k : Int) : Gives Tryz.prog 69 [I k] (.tup [I (partsN k), B (namedB k)]) := by
  refine ac_of_body TT Tryz.call69 Tryz.func69 rfl (by simp [Tryz.ntmps69]) (by kernel_rfl) fun E hk => ?_
  (repeat' (first | with_reducible (first | refine awp_seq ?_ | refine awp_block ?_ | refine awp_skip ?_ | refine awp_exit ?_ | refine awp_ret ?_ | refine athen_normal ?_ | refine athen_ret ?_ | refine athen_exit ?_ | refine ablock_normal ?_ | refine ablock_ret ?_ | refine ablock_here ?_ | refine ablock_far rfl ?_ | (refine hK _ ?_; clear K hK) | refine awp_cond_t rfl ?_ | refine awp_cond_f rfl ?_ | intro hfact) | (with_reducible refine And.intro ?_ ?_; focus (first | assumption | omega | (simp; done) | ((repeat' apply And.intro) <;> first | assumption | omega) | ((repeat' split) <;> omega))) | ((first | with_reducible (first | ((refine awp_seqr TT ?_); intro K hK) | ((refine awp_region TT ?_); intro K hK) | ((refine awp_seqrF TT [] MX (by kernel_rfl) (by kernel_rfl) ?_); intro K hK) | ((refine awp_regionF TT [] MX (by kernel_rfl) (by kernel_rfl) ?_); intro K hK)) | (with_reducible (first | refine guard_split_t TT E (fun hb => ?_) (fun hb => ?_) | refine guard_split_f TT E (fun hb => ?_) (fun hb => ?_) | refine guardD_split_t TT _ _ (fun hb => ?_) (fun hb => ?_) | refine guardD_split_f TT _ _ (fun hb => ?_) (fun hb => ?_)) <;> try simp only [hb])) <;> simp only [go_sem, ↓reduceIte, Int.reduceBEq, Int.reduceBNe, Nat.reduceEqDiff, Nat.reduceAdd, Nat.reduceMul, Nat.reduceSub, Nat.reduceLT, Nat.reduceBEq, Nat.reduceLeDiff, reduceCtorEq, Int.reduceToNat, Int.reduceNeg, Int.reduceEq, Int.reduceLE, Int.reduceLT]) | refine awp_condN rfl (fun hb => ?_) (fun hb => ?_) | refine awp_condP rfl (fun hb => ?_) (fun hb => ?_) | refine awp_cond rfl (fun hb => ?_) (fun hb => ?_)))
  all_goals (refine ret_gives TT (by simp only [go_sem, ↓reduceIte, Nat.reduceEqDiff, Nat.reduceAdd, Nat.reduceLT, Nat.reduceLeDiff, reduceCtorEq, Tryz.results69]; rfl) rfl ?_; simp_all [resV, partsN, namedB]; try omega)
theorem greatN_ok (k : Int) : Gives Tryz.prog 70 [I k] (I (greatN k)) := by
  refine ac_of_body TT Tryz.call70 Tryz.func70 rfl (by simp [Tryz.ntmps70]) (by kernel_rfl) fun E hk => ?_
  (repeat' (first | with_reducible (first | refine awp_seq ?_ | refine awp_block ?_ | refine awp_skip ?_ | refine awp_exit ?_ | refine awp_ret ?_ | refine athen_normal ?_ | refine athen_ret ?_ | refine athen_exit ?_ | refine ablock_normal ?_ | refine ablock_ret ?_ | refine ablock_here ?_ | refine ablock_far rfl ?_ | (refine hK _ ?_; clear K hK) | refine awp_cond_t rfl ?_ | refine awp_cond_f rfl ?_ | intro hfact) | (with_reducible refine And.intro ?_ ?_; focus (first | assumption | omega | (simp; done) | ((repeat' apply And.intro) <;> first | assumption | omega) | ((repeat' split) <;> omega))) | ((first | with_reducible (first | ((refine awp_seqr TT ?_); intro K hK) | ((refine awp_region TT ?_); intro K hK) | ((refine awp_seqrF TT [] MX (by kernel_rfl) (by kernel_rfl) ?_); intro K hK) | ((refine awp_regionF TT [] MX (by kernel_rfl) (by kernel_rfl) ?_); intro K hK)) | (with_reducible (first | refine guard_split_t TT E (fun hb => ?_) (fun hb => ?_) | refine guard_split_f TT E (fun hb => ?_) (fun hb => ?_) | refine guardD_split_t TT _ _ (fun hb => ?_) (fun hb => ?_) | refine guardD_split_f TT _ _ (fun hb => ?_) (fun hb => ?_)) <;> try simp only [hb])) <;> simp only [go_sem, ↓reduceIte, Int.reduceBEq, Int.reduceBNe, Nat.reduceEqDiff, Nat.reduceAdd, Nat.reduceMul, Nat.reduceSub, Nat.reduceLT, Nat.reduceBEq, Nat.reduceLeDiff, reduceCtorEq, Int.reduceToNat, Int.reduceNeg, Int.reduceEq, Int.reduceLE, Int.reduceLT]) | refine awp_condN rfl (fun hb => ?_) (fun hb => ?_) | refine awp_condP rfl (fun hb => ?_) (fun hb => ?_) | refine awp_cond rfl (fun hb => ?_) (fun hb => ?_)))
  all_goals (refine ret_gives TT (by simp only [go_sem, ↓reduceIte, Nat.reduceEqDiff, Nat.reduceAdd, Nat.reduceLT, Nat.reduceLeDiff, reduceCtorEq, Tryz.results70]; rfl) rfl ?_; simp_all [resV, greatN]; try omega)
theorem l4Parts_ok (k : Int) : Gives Tryz.prog 102 [I k] (I (if inB k 1 15 then partsN k else -1)) := by
  refine ac_of_body TT Tryz.call102 Tryz.func102 rfl (by simp [Tryz.ntmps102]) (by kernel_rfl) fun E hk => ?_
  (repeat' (first | with_reducible (first | refine awp_seq ?_ | refine awp_block ?_ | refine awp_skip ?_ | refine awp_exit ?_ | refine awp_ret ?_ | refine athen_normal ?_ | refine athen_ret ?_ | refine athen_exit ?_ | refine ablock_normal ?_ | refine ablock_ret ?_ | refine ablock_here ?_ | refine ablock_far rfl ?_ | (refine hK _ ?_; clear K hK) | refine awp_cond_t rfl ?_ | refine awp_cond_f rfl ?_ | intro hfact) | (with_reducible refine And.intro ?_ ?_; focus (first | assumption | omega | (simp; done) | ((repeat' apply And.intro) <;> first | assumption | omega) | ((repeat' split) <;> omega))) | ((first | with_reducible (first | ((refine awp_seqr TT ?_); intro K hK) | ((refine awp_region TT ?_); intro K hK) | ((refine awp_seqrF TT [] MX (by kernel_rfl) (by kernel_rfl) ?_); intro K hK) | ((refine awp_regionF TT [] MX (by kernel_rfl) (by kernel_rfl) ?_); intro K hK)) | (with_reducible (first | refine guard_split_t TT E (fun hb => ?_) (fun hb => ?_) | refine guard_split_f TT E (fun hb => ?_) (fun hb => ?_) | refine guardD_split_t TT _ _ (fun hb => ?_) (fun hb => ?_) | refine guardD_split_f TT _ _ (fun hb => ?_) (fun hb => ?_)) <;> try simp only [hb]) | ((first | refine callK_pure TT E (l1In_ok _ _ _) rfl rfl ?_ | refine callKD_pure TT _ _ (l1In_ok _ _ _) rfl rfl ?_); intro m hm; try dsimp only at hm)) <;> simp only [go_sem, ↓reduceIte, Int.reduceBEq, Int.reduceBNe, Nat.reduceEqDiff, Nat.reduceAdd, Nat.reduceMul, Nat.reduceSub, Nat.reduceLT, Nat.reduceBEq, Nat.reduceLeDiff, reduceCtorEq, Int.reduceToNat, Int.reduceNeg, Int.reduceEq, Int.reduceLE, Int.reduceLT])))
  refine awp_condN rfl (fun hb => ?_) (fun hb => ?_)
  · (repeat' (first | with_reducible (first | refine awp_seq ?_ | refine awp_block ?_ | refine awp_skip ?_ | refine awp_exit ?_ | refine awp_ret ?_ | refine athen_normal ?_ | refine athen_ret ?_ | refine athen_exit ?_ | refine ablock_normal ?_ | refine ablock_ret ?_ | refine ablock_here ?_ | refine ablock_far rfl ?_ | (refine hK _ ?_; clear K hK) | refine awp_cond_t rfl ?_ | refine awp_cond_f rfl ?_ | intro hfact) | (with_reducible refine And.intro ?_ ?_; focus (first | assumption | omega | (simp; done) | ((repeat' apply And.intro) <;> first | assumption | omega) | ((repeat' split) <;> omega))) | ((first | with_reducible (first | ((refine awp_seqr TT ?_); intro K hK) | ((refine awp_region TT ?_); intro K hK) | ((refine awp_seqrF TT [] MX (by kernel_rfl) (by kernel_rfl) ?_); intro K hK) | ((refine awp_regionF TT [] MX (by kernel_rfl) (by kernel_rfl) ?_); intro K hK)) | (with_reducible (first | refine guard_split_t TT E (fun hb => ?_) (fun hb => ?_) | refine guard_split_f TT E (fun hb => ?_) (fun hb => ?_) | refine guardD_split_t TT _ _ (fun hb => ?_) (fun hb => ?_) | refine guardD_split_f TT _ _ (fun hb => ?_) (fun hb => ?_)) <;> try simp only [hb]) | ((first | refine callK_pure TT E (l1In_ok _ _ _) rfl rfl ?_ | refine callKD_pure TT _ _ (l1In_ok _ _ _) rfl rfl ?_); intro m hm; try dsimp only at hm)) <;> simp only [go_sem, ↓reduceIte, Int.reduceBEq, Int.reduceBNe, Nat.reduceEqDiff, Nat.reduceAdd, Nat.reduceMul, Nat.reduceSub, Nat.reduceLT, Nat.reduceBEq, Nat.reduceLeDiff, reduceCtorEq, Int.reduceToNat, Int.reduceNeg, Int.reduceEq, Int.reduceLE, Int.reduceLT])))
    refine ret_gives TT (by simp only [go_sem, ↓reduceIte, Nat.reduceEqDiff, Nat.reduceAdd, Nat.reduceLT, Nat.reduceLeDiff, reduceCtorEq, Tryz.results102]; rfl) rfl ?_; simp [resV, hb]
  · have h := inB_t.1 hb
    have hw : IntKind.i64.wrap (k - 1) = k - 1 := wrap_id (by omega)
    (repeat' (first | with_reducible (first | refine awp_seq ?_ | refine awp_block ?_ | refine awp_skip ?_ | refine awp_exit ?_ | refine awp_ret ?_ | refine athen_normal ?_ | refine athen_ret ?_ | refine athen_exit ?_ | refine ablock_normal ?_ | refine ablock_ret ?_ | refine ablock_here ?_ | refine ablock_far rfl ?_ | (refine hK _ ?_; clear K hK) | refine awp_cond_t rfl ?_ | refine awp_cond_f rfl ?_ | intro hfact) | (with_reducible refine And.intro ?_ ?_; focus (first | assumption | omega | (simp; done) | ((repeat' apply And.intro) <;> first | assumption | omega) | ((repeat' split) <;> omega))) | ((first | with_reducible (first | ((refine awp_seqr TT ?_); intro K hK) | ((refine awp_region TT ?_); intro K hK) | ((refine awp_seqrF TT [] MX (by kernel_rfl) (by kernel_rfl) ?_); intro K hK) | ((refine awp_regionF TT [] MX (by kernel_rfl) (by kernel_rfl) ?_); intro K hK)) | (with_reducible (first | refine guard_split_t TT E (fun hb => ?_) (fun hb => ?_) | refine guard_split_f TT E (fun hb => ?_) (fun hb => ?_) | refine guardD_split_t TT _ _ (fun hb => ?_) (fun hb => ?_) | refine guardD_split_f TT _ _ (fun hb => ?_) (fun hb => ?_)) <;> try simp only [hb]) | ((first | refine callK_pure TT E (l1In_ok _ _ _) rfl rfl ?_ | refine callKD_pure TT _ _ (l1In_ok _ _ _) rfl rfl ?_); intro m hm; try dsimp only at hm)) <;> simp only [go_sem, ↓reduceIte, Int.reduceBEq, Int.reduceBNe, Nat.reduceEqDiff, Nat.reduceAdd, Nat.reduceMul, Nat.reduceSub, Nat.reduceLT, Nat.reduceBEq, Nat.reduceLeDiff, reduceCtorEq, Int.reduceToNat, Int.reduceNeg, Int.reduceEq, Int.reduceLE, Int.reduceLT, hw])))
    refine ret_gives TT (by simp only [go_sem, ↓reduceIte, Nat.reduceEqDiff, Nat.reduceAdd, Nat.reduceLT, Nat.reduceLeDiff, reduceCtorEq, Tryz.results102]; rfl) rfl ?_; simp only [resV, hb, if_true, AV.d.injEq, DV.int.injEq, true_and, partsN]; (repeat' split) <;> omega
/-- The size that the program finds: 0 for what is not right, or too deep. -/
def sumI : List Int → Int → Int
  | [], acc => acc
  | x :: xs, acc => if x = 0 then 0 else sumI xs (acc + x)
def sizeI : Nat → Expr → Int
  | 0, _ => 0
  | d + 1, .mk k n nm ps => if nodeB k n nm ps.length then sumI (ps.map (sizeI d)) 1 else 0
theorem nodeB_len {k n : Int} {nm : List UInt8} {l : Nat} (h : nodeB k n nm l = true) : l ≤ 2 := by
  have := partsN_le k
  simp [nodeB] at h
  omega
theorem sumI_bd (B : Int) (hB : 0 ≤ B) : ∀ (xs : List Int) (acc : Int), (∀ x ∈ xs, 0 ≤ x ∧ x ≤ B) → 0 ≤ acc → 0 ≤ sumI xs acc ∧ sumI xs acc ≤ acc + xs.length * B
  | [], acc, _, ha => by simp [sumI]; exact ha
  | x :: xs, acc, h, ha => by
    have hx := h x (by simp)
    have ih := sumI_bd B hB xs (acc + x) (fun y hy => h y (by simp [hy])) (by omega)
    simp only [sumI]
    have e : ((x :: xs).length : Int) * B = xs.length * B + B := by simp [Int.add_mul]
    have hm : 0 ≤ (xs.length : Int) * B := Int.mul_nonneg (by omega) hB
    split <;> omega
def capI : Nat → Int
  | 0 => 0
  | d + 1 => 1 + 2 * capI d
theorem capI_pos : ∀ d, 0 ≤ capI d
  | 0 => Int.le_refl _
  | d + 1 => by have := capI_pos d; simp only [capI]; omega
theorem sizeI_bd : ∀ (d : Nat) (e : Expr), 0 ≤ sizeI d e ∧ sizeI d e ≤ capI d
  | 0, e => by simp [sizeI, capI]
  | d + 1, .mk k n nm ps => by
    have hp := capI_pos d
    simp only [sizeI, capI]
    split
    · rename_i h
      have hl := nodeB_len h
      have := sumI_bd (capI d) hp (ps.map (sizeI d)) 1 (fun x hx => by obtain ⟨e, _, rfl⟩ := List.mem_map.1 hx; exact sizeI_bd d e) (by omega)
      have hm : ((ps.map (sizeI d)).length : Int) * capI d ≤ 2 * capI d := Int.mul_le_mul_of_nonneg_right (by simp; omega) hp
      omega
    · omega

theorem size_ok (d : Nat) (hd : d ≤ 7) : ∀ (k n : Int) (nm : List UInt8) (ps : List Expr), Gives Tryz.prog 51 [.agg [.int .i64 k, .int .i64 n, .str nm, .sl 4 (ps.map encE) .no], I d] (I (sizeI d (.mk k n nm ps))) := by
  induction d with
  | zero =>
    intro k n nm ps
    have h0 : ((((0 : Nat) : Int)) == 0) = true := rfl
    refine ac_of_body TT Tryz.call51 Tryz.func51 rfl (by simp [Tryz.ntmps51]) (by kernel_rfl) fun E hk => ?_
    (repeat' (first | with_reducible (first | refine awp_seq ?_ | refine awp_block ?_ | refine awp_skip ?_ | refine awp_exit ?_ | refine awp_ret ?_ | refine athen_normal ?_ | refine athen_ret ?_ | refine athen_exit ?_ | refine ablock_normal ?_ | refine ablock_ret ?_ | refine ablock_here ?_ | refine ablock_far rfl ?_ | (refine hK _ ?_; clear K hK) | refine awp_cond_t rfl ?_ | refine awp_cond_f rfl ?_ | intro hfact) | (with_reducible refine And.intro ?_ ?_; focus (first | assumption | omega | (simp; done) | ((repeat' apply And.intro) <;> first | assumption | omega) | ((repeat' split) <;> omega))) | ((first | with_reducible (first | ((refine awp_seqr TT ?_); intro K hK) | ((refine awp_region TT ?_); intro K hK) | ((refine awp_seqrF TT [] MX (by kernel_rfl) (by kernel_rfl) ?_); intro K hK) | ((refine awp_regionF TT [] MX (by kernel_rfl) (by kernel_rfl) ?_); intro K hK)) | (with_reducible (first | refine guard_split_t TT E (fun hb => ?_) (fun hb => ?_) | refine guard_split_f TT E (fun hb => ?_) (fun hb => ?_) | refine guardD_split_t TT _ _ (fun hb => ?_) (fun hb => ?_) | refine guardD_split_f TT _ _ (fun hb => ?_) (fun hb => ?_)) <;> try simp only [hb]) | ((first | refine callK_pure TT E (name_ok _) rfl rfl ?_ | refine callKD_pure TT _ _ (name_ok _) rfl rfl ?_); intro m hm; try dsimp only at hm) | ((first | refine callK_pure TT E (in_ok _ _ _) rfl rfl ?_ | refine callKD_pure TT _ _ (in_ok _ _ _) rfl rfl ?_); intro m hm; try dsimp only at hm) | ((first | refine callK_pure TT E (partsOf_ok _) rfl rfl ?_ | refine callKD_pure TT _ _ (partsOf_ok _) rfl rfl ?_); intro m hm; try dsimp only at hm) | ((first | refine callK_pure TT E (greatN_ok _) rfl rfl ?_ | refine callKD_pure TT _ _ (greatN_ok _) rfl rfl ?_); intro m hm; try dsimp only at hm)) <;> simp only [go_sem, ↓reduceIte, Int.reduceBEq, Int.reduceBNe, Nat.reduceEqDiff, Nat.reduceAdd, Nat.reduceMul, Nat.reduceSub, Nat.reduceLT, Nat.reduceBEq, Nat.reduceLeDiff, reduceCtorEq, Int.reduceToNat, Int.reduceNeg, Int.reduceEq, Int.reduceLE, Int.reduceLT, h0])))
    all_goals (refine ret_gives TT (by simp only [go_sem, ↓reduceIte, Nat.reduceEqDiff, Nat.reduceAdd, Nat.reduceLT, Nat.reduceLeDiff, reduceCtorEq, Tryz.results51]; rfl) rfl ?_; simp [resV, sizeI])
  | succ d ih =>
    intro k n nm ps
    have hz : (((d + 1 : Nat) : Int) == 0) = false := by simp; omega
    have hw1 : IntKind.i64.wrap (((d + 1 : Nat) : Int) - 1) = (d : Int) := by rw [wrap_id (by omega)]; omega
    refine ac_of_body TT Tryz.call51 Tryz.func51 rfl (by simp [Tryz.ntmps51]) (by kernel_rfl) fun E hk => ?_
    cases hn : nodeB k n nm ps.length
    · (repeat' (first | with_reducible (first | refine awp_seq ?_ | refine awp_block ?_ | refine awp_skip ?_ | refine awp_exit ?_ | refine awp_ret ?_ | refine athen_normal ?_ | refine athen_ret ?_ | refine athen_exit ?_ | refine ablock_normal ?_ | refine ablock_ret ?_ | refine ablock_here ?_ | refine ablock_far rfl ?_ | (refine hK _ ?_; clear K hK) | refine awp_cond_t rfl ?_ | refine awp_cond_f rfl ?_ | intro hfact) | (with_reducible refine And.intro ?_ ?_; focus (first | assumption | omega | (simp; done) | ((repeat' apply And.intro) <;> first | assumption | omega) | ((repeat' split) <;> omega))) | ((first | with_reducible (first | ((refine awp_seqr TT ?_); intro K hK) | ((refine awp_region TT ?_); intro K hK) | ((refine awp_seqrF TT [] MX (by kernel_rfl) (by kernel_rfl) ?_); intro K hK) | ((refine awp_regionF TT [] MX (by kernel_rfl) (by kernel_rfl) ?_); intro K hK)) | (with_reducible (first | refine guard_split_t TT E (fun hb => ?_) (fun hb => ?_) | refine guard_split_f TT E (fun hb => ?_) (fun hb => ?_) | refine guardD_split_t TT _ _ (fun hb => ?_) (fun hb => ?_) | refine guardD_split_f TT _ _ (fun hb => ?_) (fun hb => ?_)) <;> try simp only [hb]) | ((first | refine callK_pure TT E (name_ok _) rfl rfl ?_ | refine callKD_pure TT _ _ (name_ok _) rfl rfl ?_); intro m hm; try dsimp only at hm) | ((first | refine callK_pure TT E (in_ok _ _ _) rfl rfl ?_ | refine callKD_pure TT _ _ (in_ok _ _ _) rfl rfl ?_); intro m hm; try dsimp only at hm) | ((first | refine callK_pure TT E (partsOf_ok _) rfl rfl ?_ | refine callKD_pure TT _ _ (partsOf_ok _) rfl rfl ?_); intro m hm; try dsimp only at hm) | ((first | refine callK_pure TT E (greatN_ok _) rfl rfl ?_ | refine callKD_pure TT _ _ (greatN_ok _) rfl rfl ?_); intro m hm; try dsimp only at hm)) <;> simp only [go_sem, ↓reduceIte, Int.reduceBEq, Int.reduceBNe, Nat.reduceEqDiff, Nat.reduceAdd, Nat.reduceMul, Nat.reduceSub, Nat.reduceLT, Nat.reduceBEq, Nat.reduceLeDiff, reduceCtorEq, Int.reduceToNat, Int.reduceNeg, Int.reduceEq, Int.reduceLE, Int.reduceLT, hz]) | refine awp_condN rfl (fun hb => ?_) (fun hb => ?_) | refine awp_condP rfl (fun hb => ?_) (fun hb => ?_) | refine awp_cond rfl (fun hb => ?_) (fun hb => ?_)))
      all_goals (first | (refine ret_gives TT (by simp only [go_sem, ↓reduceIte, Nat.reduceEqDiff, Nat.reduceAdd, Nat.reduceLT, Nat.reduceLeDiff, reduceCtorEq, Tryz.results51]; rfl) rfl ?_; simp [resV, sizeI, hn]; done) | (exfalso; simp_all [nodeB]; done))
    · have hl := nodeB_len hn
      (repeat' (first | with_reducible (first | refine awp_seq ?_ | refine awp_block ?_ | refine awp_skip ?_ | refine awp_exit ?_ | refine awp_ret ?_ | refine athen_normal ?_ | refine athen_ret ?_ | refine athen_exit ?_ | refine ablock_normal ?_ | refine ablock_ret ?_ | refine ablock_here ?_ | refine ablock_far rfl ?_ | (refine hK _ ?_; clear K hK) | refine awp_cond_t rfl ?_ | refine awp_cond_f rfl ?_ | intro hfact) | (with_reducible refine And.intro ?_ ?_; focus (first | assumption | omega | (simp; done) | ((repeat' apply And.intro) <;> first | assumption | omega) | ((repeat' split) <;> omega))) | ((first | with_reducible (first | ((refine awp_seqr TT ?_); intro K hK) | ((refine awp_region TT ?_); intro K hK) | ((refine awp_seqrF TT [] MX (by kernel_rfl) (by kernel_rfl) ?_); intro K hK) | ((refine awp_regionF TT [] MX (by kernel_rfl) (by kernel_rfl) ?_); intro K hK)) | (with_reducible (first | refine guard_split_t TT E (fun hb => ?_) (fun hb => ?_) | refine guard_split_f TT E (fun hb => ?_) (fun hb => ?_) | refine guardD_split_t TT _ _ (fun hb => ?_) (fun hb => ?_) | refine guardD_split_f TT _ _ (fun hb => ?_) (fun hb => ?_)) <;> try simp only [hb]) | ((first | refine callK_pure TT E (name_ok _) rfl rfl ?_ | refine callKD_pure TT _ _ (name_ok _) rfl rfl ?_); intro m hm; try dsimp only at hm) | ((first | refine callK_pure TT E (in_ok _ _ _) rfl rfl ?_ | refine callKD_pure TT _ _ (in_ok _ _ _) rfl rfl ?_); intro m hm; try dsimp only at hm) | ((first | refine callK_pure TT E (partsOf_ok _) rfl rfl ?_ | refine callKD_pure TT _ _ (partsOf_ok _) rfl rfl ?_); intro m hm; try dsimp only at hm) | ((first | refine callK_pure TT E (greatN_ok _) rfl rfl ?_ | refine callKD_pure TT _ _ (greatN_ok _) rfl rfl ?_); intro m hm; try dsimp only at hm)) <;> simp only [go_sem, ↓reduceIte, Int.reduceBEq, Int.reduceBNe, Nat.reduceEqDiff, Nat.reduceAdd, Nat.reduceMul, Nat.reduceSub, Nat.reduceLT, Nat.reduceBEq, Nat.reduceLeDiff, reduceCtorEq, Int.reduceToNat, Int.reduceNeg, Int.reduceEq, Int.reduceLE, Int.reduceLT, hz]) | refine awp_condN rfl (fun hb => ?_) (fun hb => ?_) | refine awp_condP rfl (fun hb => ?_) (fun hb => ?_) | refine awp_cond rfl (fun hb => ?_) (fun hb => ?_)))
      all_goals (first | (refine ret_gives TT (by simp only [go_sem, ↓reduceIte, Nat.reduceEqDiff, Nat.reduceAdd, Nat.reduceLT, Nat.reduceLeDiff, reduceCtorEq, Tryz.results51]; rfl) rfl ?_; exfalso; simp_all [nodeB]; done) | skip)
      all_goals
        refine awp_zip (ps) (List.length (ps)) 58 [] [1, 58, 59] (fun j n' => [(7, I n'), (60, I j)]) (fun obs j n' => obs) (fun j n' => []) (fun j rest n' nt => sumI (rest.map (sizeI d)) n' = sumI (ps.map (sizeI d)) 1 ∧ 0 ≤ n' ∧ n' ≤ 1 + j * capI d) (1) (by first | rfl | (simp; done) | (simp; omega)) (by first | rfl | (simp only [go_sem, ↓reduceIte, Nat.reduceEqDiff, Nat.reduceAdd, Nat.reduceLT, Nat.reduceLeDiff, reduceCtorEq]; done) | (simp only [go_sem, ↓reduceIte, Nat.reduceEqDiff, Nat.reduceAdd, Nat.reduceLT, Nat.reduceLeDiff, reduceCtorEq]; simp; done)) (by simp only [go_sem, ↓reduceIte, Nat.reduceEqDiff, Nat.reduceAdd, Nat.reduceLT, Nat.reduceLeDiff, reduceCtorEq]; rfl) (by first | rfl | (simp only [go_sem, ↓reduceIte, Nat.reduceEqDiff, Nat.reduceAdd, Nat.reduceLT, Nat.reduceLeDiff, reduceCtorEq]; rfl)) (⟨rfl, by omega, by omega⟩) (by unfold ASubW; simp only [go_sem, ↓reduceIte, Nat.reduceEqDiff, Nat.reduceAdd, Nat.reduceLT, Nat.reduceLeDiff, reduceCtorEq, hk]; try simp) ?_ ?_
        · rintro n' nt hmax ⟨h1, h2, h3⟩
          (repeat' (first | with_reducible (first | refine awp_seq ?_ | refine awp_block ?_ | refine awp_skip ?_ | refine awp_exit ?_ | refine awp_ret ?_ | refine athen_normal ?_ | refine athen_ret ?_ | refine athen_exit ?_ | refine ablock_normal ?_ | refine ablock_ret ?_ | refine ablock_here ?_ | refine ablock_far rfl ?_ | (refine hK _ ?_; clear K hK) | refine awp_cond_t rfl ?_ | refine awp_cond_f rfl ?_ | intro hfact) | (with_reducible refine And.intro ?_ ?_; focus (first | assumption | omega | (simp; done) | ((repeat' apply And.intro) <;> first | assumption | omega) | ((repeat' split) <;> omega))) | ((first | with_reducible (first | ((refine awp_seqr TT ?_); intro K hK) | ((refine awp_region TT ?_); intro K hK) | ((refine awp_seqrF TT [] MX (by kernel_rfl) (by kernel_rfl) ?_); intro K hK) | ((refine awp_regionF TT [] MX (by kernel_rfl) (by kernel_rfl) ?_); intro K hK)) | (with_reducible (first | refine guard_split_t TT E (fun hb => ?_) (fun hb => ?_) | refine guard_split_f TT E (fun hb => ?_) (fun hb => ?_) | refine guardD_split_t TT _ _ (fun hb => ?_) (fun hb => ?_) | refine guardD_split_f TT _ _ (fun hb => ?_) (fun hb => ?_)) <;> try simp only [hb]) | ((first | refine callK_pure TT E (name_ok _) rfl rfl ?_ | refine callKD_pure TT _ _ (name_ok _) rfl rfl ?_); intro m hm; try dsimp only at hm) | ((first | refine callK_pure TT E (in_ok _ _ _) rfl rfl ?_ | refine callKD_pure TT _ _ (in_ok _ _ _) rfl rfl ?_); intro m hm; try dsimp only at hm) | ((first | refine callK_pure TT E (partsOf_ok _) rfl rfl ?_ | refine callKD_pure TT _ _ (partsOf_ok _) rfl rfl ?_); intro m hm; try dsimp only at hm) | ((first | refine callK_pure TT E (greatN_ok _) rfl rfl ?_ | refine callKD_pure TT _ _ (greatN_ok _) rfl rfl ?_); intro m hm; try dsimp only at hm)) <;> simp only [go_sem, ↓reduceIte, Int.reduceBEq, Int.reduceBNe, Nat.reduceEqDiff, Nat.reduceAdd, Nat.reduceMul, Nat.reduceSub, Nat.reduceLT, Nat.reduceBEq, Nat.reduceLeDiff, reduceCtorEq, Int.reduceToNat, Int.reduceNeg, Int.reduceEq, Int.reduceLE, Int.reduceLT])))
          refine ret_gives TT (by simp only [go_sem, ↓reduceIte, Nat.reduceEqDiff, Nat.reduceAdd, Nat.reduceLT, Nat.reduceLeDiff, reduceCtorEq, Tryz.results51]; rfl) rfl ?_; simp only [List.map_nil, sumI] at h1; simp [resV, sizeI, hn, ← h1]
        · rintro j x rest n' nt hA ⟨h1, h2, h3⟩
          have hbd := sizeI_bd d x
          have hc : capI d ≤ 63 := by
            have : ∀ m, m ≤ 6 → capI m ≤ 63 := by intro m hm; have h6 : m = 0 ∨ m = 1 ∨ m = 2 ∨ m = 3 ∨ m = 4 ∨ m = 5 ∨ m = 6 := by omega
                                                  rcases h6 with rfl | rfl | rfl | rfl | rfl | rfl | rfl <;> decide
            exact this d (by omega)
          have hj := hA.lt
          have hm : (j : Int) * capI d ≤ 2 * capI d := Int.mul_le_mul_of_nonneg_right (by omega) (capI_pos d)
          have hw2 : IntKind.i64.wrap (n' + sizeI d x) = n' + sizeI d x := wrap_id (by omega)
          simp only [List.map_cons, sumI] at h1
          (repeat' (first | with_reducible (first | refine awp_seq ?_ | refine awp_block ?_ | refine awp_skip ?_ | refine awp_exit ?_ | refine awp_ret ?_ | refine athen_normal ?_ | refine athen_ret ?_ | refine athen_exit ?_ | refine ablock_normal ?_ | refine ablock_ret ?_ | refine ablock_here ?_ | refine ablock_far rfl ?_ | (refine hK _ ?_; clear K hK) | refine awp_cond_t rfl ?_ | refine awp_cond_f rfl ?_ | intro hfact) | (with_reducible refine And.intro ?_ ?_; focus (first | assumption | omega | (simp; done) | ((repeat' apply And.intro) <;> first | assumption | omega) | ((repeat' split) <;> omega))) | ((first | with_reducible (first | ((refine awp_seqr TT ?_); intro K hK) | ((refine awp_region TT ?_); intro K hK) | ((refine awp_seqrF TT [] MX (by kernel_rfl) (by kernel_rfl) ?_); intro K hK) | ((refine awp_regionF TT [] MX (by kernel_rfl) (by kernel_rfl) ?_); intro K hK)) | (with_reducible (first | refine guard_split_t TT E (fun hb => ?_) (fun hb => ?_) | refine guard_split_f TT E (fun hb => ?_) (fun hb => ?_) | refine guardD_split_t TT _ _ (fun hb => ?_) (fun hb => ?_) | refine guardD_split_f TT _ _ (fun hb => ?_) (fun hb => ?_)) <;> try simp only [hb]) | ((first | refine callK_pure TT E (ih (by omega) _ _ _ _) rfl rfl ?_ | refine callKD_pure TT _ _ (ih (by omega) _ _ _ _) rfl rfl ?_); intro m hm; try dsimp only at hm)) <;> simp only [go_sem, ↓reduceIte, Int.reduceBEq, Int.reduceBNe, Nat.reduceEqDiff, Nat.reduceAdd, Nat.reduceMul, Nat.reduceSub, Nat.reduceLT, Nat.reduceBEq, Nat.reduceLeDiff, reduceCtorEq, Int.reduceToNat, Int.reduceNeg, Int.reduceEq, Int.reduceLE, Int.reduceLT, hA.d, hA.w, hA.lt, hA.g, encE_eq, hw1, hw2]) | refine awp_condN rfl (fun hb => ?_) (fun hb => ?_) | refine awp_condP rfl (fun hb => ?_) (fun hb => ?_) | refine awp_cond rfl (fun hb => ?_) (fun hb => ?_)))
          · refine ret_gives TT (by simp only [go_sem, ↓reduceIte, Nat.reduceEqDiff, Nat.reduceAdd, Nat.reduceLT, Nat.reduceLeDiff, reduceCtorEq, Tryz.results51]; rfl) rfl ?_; rw [if_pos hb] at h1; simp [resV, sizeI, hn, ← h1]
          · rw [if_neg hb] at h1
            refine ⟨n' + sizeI d x, ⟨h1, by omega, by rw [Int.natCast_add, Int.add_mul]; omega⟩, (by unfold ASubW; simp only [go_sem, ↓reduceIte, Nat.reduceEqDiff, Nat.reduceAdd, Nat.reduceLT, Nat.reduceLeDiff, reduceCtorEq, hk]; try simp)⟩
mutual
/-- Right, whatever its size is. -/
def goodE : Expr → Bool
  | .mk k n nm ps => nodeB k n nm ps.length && goodEs ps
def goodEs : List Expr → Bool
  | [] => true
  | e :: es => goodE e && goodEs es
end
mutual
def depE : Expr → Nat
  | .mk _ _ _ ps => 1 + depEs ps
def depEs : List Expr → Nat
  | [] => 0
  | e :: es => max (depE e) (depEs es)
end
theorem goodE_mk (k n : Int) (nm : List UInt8) (ps : List Expr) : goodE (.mk k n nm ps) = (nodeB k n nm ps.length && goodEs ps) := by rw [goodE]
theorem depE_mk (k n : Int) (nm : List UInt8) (ps : List Expr) : depE (.mk k n nm ps) = 1 + depEs ps := by rw [depE]
theorem cntE_pos (e : Expr) : 1 ≤ cntE e := by cases e; rw [cntE_mk]; omega
theorem depE_pos (e : Expr) : 1 ≤ depE e := by cases e; rw [depE_mk]; omega
/-- A valid expression. -/
def validE (e : Expr) : Bool := goodE e && decide ((cntE e : Int) ≤ 40) && decide ((depE e : Int) ≤ 7)
theorem sumI_eq (d : Nat) (H : ∀ e, sizeI d e = if goodE e = true ∧ depE e ≤ d then (cntE e : Int) else 0) : ∀ (ps : List Expr) (acc : Int), sumI (ps.map (sizeI d)) acc = if goodEs ps = true ∧ depEs ps ≤ d then acc + cntEs ps else 0
  | [], acc => by simp [sumI, goodEs, depEs, cntEs]
  | e :: ps, acc => by
    have h1 := H e
    have h2 := sumI_eq d H ps (acc + sizeI d e)
    have hc := cntE_pos e
    simp only [List.map_cons, sumI, goodEs, depEs, cntEs, Bool.and_eq_true, h2]
    by_cases hg : goodE e = true ∧ depE e ≤ d
    · rw [if_pos hg] at h1
      rw [h1, if_neg (by omega)]
      by_cases hp : goodEs ps = true ∧ depEs ps ≤ d
      · rw [if_pos hp, if_pos ⟨⟨hg.1, hp.1⟩, by omega⟩]; push_cast; omega
      · rw [if_neg hp, if_neg (fun h => hp ⟨h.1.2, by omega⟩)]
    · rw [if_neg hg] at h1
      rw [h1, if_pos rfl, if_neg (fun h => hg ⟨h.1.1, by omega⟩)]
theorem sizeI_eq : ∀ (d : Nat) (e : Expr), sizeI d e = if goodE e = true ∧ depE e ≤ d then (cntE e : Int) else 0
  | 0, e => by have := depE_pos e; rw [if_neg (fun h => by omega)]; simp [sizeI]
  | d + 1, .mk k n nm ps => by
    rw [goodE_mk, depE_mk, cntE_mk]
    simp only [sizeI, Bool.and_eq_true]
    have h := sumI_eq d (fun e => sizeI_eq d e) ps 1
    by_cases hn : nodeB k n nm ps.length = true
    · rw [if_pos hn, h]
      by_cases hp : goodEs ps = true ∧ depEs ps ≤ d
      · rw [if_pos hp, if_pos ⟨⟨hn, hp.1⟩, by omega⟩]; push_cast; omega
      · rw [if_neg hp, if_neg (fun h => hp ⟨h.1.2, by omega⟩)]
    · rw [if_neg hn, if_neg (fun h => hn h.1.1)]
theorem size_valid (e : Expr) : inB (sizeI 7 e) 1 40 = validE e := by
  have hc := cntE_pos e
  rw [sizeI_eq, Bool.eq_iff_iff, inB_t]
  simp only [validE, Bool.and_eq_true, decide_eq_true_eq]
  split
  · rename_i h
    exact ⟨fun h1 => ⟨⟨h.1, by omega⟩, by omega⟩, fun h1 => by omega⟩
  · rename_i h
    exact ⟨fun h1 => by omega, fun h1 => absurd ⟨h1.1.1, by omega⟩ h⟩
theorem valid_ok (ekind' : Int) (enumber' : Int) (ename' : List UInt8) (eparts' : List Expr) : Gives Tryz.prog 24 [.agg [.int .i64 ekind', .int .i64 enumber', .str ename', .sl 4 (eparts'.map encE) .no]] (B (validE (Expr.mk ekind' enumber' ename' eparts'))) := by
  refine ac_of_body TT Tryz.call24 Tryz.func24 rfl (by simp [Tryz.ntmps24]) (by kernel_rfl) fun E hk => ?_
  (repeat' (first | with_reducible (first | refine awp_seq ?_ | refine awp_block ?_ | refine awp_skip ?_ | refine awp_exit ?_ | refine awp_ret ?_ | refine athen_normal ?_ | refine athen_ret ?_ | refine athen_exit ?_ | refine ablock_normal ?_ | refine ablock_ret ?_ | refine ablock_here ?_ | refine ablock_far rfl ?_ | (refine hK _ ?_; clear K hK) | refine awp_cond_t rfl ?_ | refine awp_cond_f rfl ?_ | intro hfact) | (with_reducible refine And.intro ?_ ?_; focus (first | assumption | omega | (simp; done) | ((repeat' apply And.intro) <;> first | assumption | omega) | ((repeat' split) <;> omega))) | ((first | with_reducible (first | ((refine awp_seqr TT ?_); intro K hK) | ((refine awp_region TT ?_); intro K hK) | ((refine awp_seqrF TT [] MX (by kernel_rfl) (by kernel_rfl) ?_); intro K hK) | ((refine awp_regionF TT [] MX (by kernel_rfl) (by kernel_rfl) ?_); intro K hK)) | (with_reducible (first | refine guard_split_t TT E (fun hb => ?_) (fun hb => ?_) | refine guard_split_f TT E (fun hb => ?_) (fun hb => ?_) | refine guardD_split_t TT _ _ (fun hb => ?_) (fun hb => ?_) | refine guardD_split_f TT _ _ (fun hb => ?_) (fun hb => ?_)) <;> try simp only [hb]) | ((first | refine callK_pure TT E (in_ok _ _ _) rfl rfl ?_ | refine callKD_pure TT _ _ (in_ok _ _ _) rfl rfl ?_); intro m hm; try dsimp only at hm) | ((first | refine callK_pure TT E (size_ok 7 (by omega) _ _ _ _) rfl rfl ?_ | refine callKD_pure TT _ _ (size_ok 7 (by omega) _ _ _ _) rfl rfl ?_); intro m hm; try dsimp only at hm)) <;> simp only [go_sem, ↓reduceIte, Int.reduceBEq, Int.reduceBNe, Nat.reduceEqDiff, Nat.reduceAdd, Nat.reduceMul, Nat.reduceSub, Nat.reduceLT, Nat.reduceBEq, Nat.reduceLeDiff, reduceCtorEq, Int.reduceToNat, Int.reduceNeg, Int.reduceEq, Int.reduceLE, Int.reduceLT])))
  refine ret_gives TT (by simp only [go_sem, ↓reduceIte, Nat.reduceEqDiff, Nat.reduceAdd, Nat.reduceLT, Nat.reduceLeDiff, reduceCtorEq, Tryz.results24]; rfl) rfl ?_; simp [resV, size_valid]

end Go.Proofs.YtfgalmgldidcmaaGreat
