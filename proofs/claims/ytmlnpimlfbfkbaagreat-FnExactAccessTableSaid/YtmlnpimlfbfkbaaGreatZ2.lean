/- Walks of functions of the cut by the abstract logic, and what they compute. Filled by a program of mine from a template. -/
import Derived.Test.YtmlnpimlfbfkbaaGreatZ1
namespace Go.Proofs.YtmlnpimlfbfkbaaGreat
open Go Go.AL
set_option linter.unusedSimpArgs false
set_option linter.unusedVariables false
def numsF (q : Nat → Bool) (n : Nat) : List Int := ((List.range n).filter q).map fun (k : Nat) => (k : Int)
theorem numsF_0 (q : Nat → Bool) : numsF q 0 = [] := rfl
theorem numsF_s (q : Nat → Bool) (n : Nat) : numsF q (n + 1) = numsF q n ++ if q n then [(n : Int)] else [] := by
  unfold numsF
  rw [List.range_succ, List.filter_append, List.map_append]
  congr 1
  by_cases h : q n <;> simp [h]
theorem numsF_len (q : Nat → Bool) (n : Nat) : (numsF q n).length ≤ n := by
  unfold numsF
  rw [List.length_map]
  exact Nat.le_trans (List.length_filter_le _ _) (by simp)
theorem numsF_m (q : Nat → Bool) (n : Nat) : (numsF q (n + 1)).map encI = (numsF q n).map encI ++ if q n then [[.int .i64 (n : Int)]] else [] := by
  rw [numsF_s, List.map_append]
  congr 1
  split <;> simp [encI]
def mayQ (w : List Thing) (act what : Int) (fs : List Field) (l : List Policy) (k : Nat) : Bool := (decB w ⟨k, act, what, fs⟩ l).allow
def whoB (w : List Thing) (act what : Int) (fs : List Field) (l : List Policy) : List Int := numsF (mayQ w act what fs l) w.length
def actQ (w : List Thing) (who what : Int) (fs : List Field) (l : List Policy) (k : Nat) : Bool := (decB w ⟨who, k, what, fs⟩ l).allow
def actsB (w : List Thing) (who what : Int) (fs : List Field) (l : List Policy) : List Int := numsF (actQ w who what fs l) 4
theorem acts_ok (w : List Thing) (who what : Int) (fs : List Field) (l : List Policy) : Gives Tryz.prog 78 [LT w, I who, I what, LF fs, LP l] (LI (actsB w who what fs l)) := by
  refine AC.erR ?_
  refine q7y TT Tryz.call78 Tryz.func78 rfl (by simp [Tryz.ntmps78]) (by kernel_rfl) fun E hk => ?_
  (repeat' (first | with_reducible (first | refine awp_seq ?_ | refine q7q ?_ | refine q7u ?_ | refine q7v ?_ | refine awp_ret ?_ | refine q7h ?_ | refine q7r ?_ | refine q7l ?_ | refine q7g ?_ | refine q7m ?_ | refine q7i ?_ | refine q7n rfl ?_ | (refine hK _ ?_; clear K hK) | refine q7o rfl ?_ | refine q7p rfl ?_ | intro hfact) | (with_reducible refine And.intro ?_ ?_; focus (first | assumption | omega | (simp; done) | ((repeat' apply And.intro) <;> first | assumption | omega) | ((repeat' split) <;> omega))) | ((first | with_reducible (first | ((refine q7t TT ?_); intro K hK) | ((refine q7k TT ?_); intro K hK) | ((refine q7s TT [] MX (by kernel_rfl) (by kernel_rfl) ?_); intro K hK) | ((refine q7j TT [] MX (by kernel_rfl) (by kernel_rfl) ?_); intro K hK)) | (with_reducible (first | refine q7e TT E (fun hb => ?_) (fun hb => ?_) | refine q7f TT E (fun hb => ?_) (fun hb => ?_) | refine q7c TT _ _ (fun hb => ?_) (fun hb => ?_) | refine q7d TT _ _ (fun hb => ?_) (fun hb => ?_)) <;> try simp only [hb]) | ((first | refine q7b TT E (allowed_ok _ _ _ _ _ _) rfl rfl ?_ | refine q7a TT _ _ (allowed_ok _ _ _ _ _ _) rfl rfl ?_); intro m hm; try dsimp only at hm)) <;> simp only [go_sem, ↓reduceIte, Int.reduceBEq, Int.reduceBNe, Nat.reduceEqDiff, Nat.reduceAdd, Nat.reduceMul, Nat.reduceSub, Nat.reduceLT, Nat.reduceBEq, Nat.reduceLeDiff, reduceCtorEq, Int.reduceToNat, Int.reduceNeg, Int.reduceEq, Int.reduceLE, Int.reduceLT])))
  refine awp_lp [0, 1, 2, 3, 4] (fun (s : Nat × Own) => [(11, LI (numsF (actQ w who what fs l) s.1) s.2), (12, I (s.1 : Nat))]) (fun obs (s : Nat × Own) => obs) (fun (s : Nat × Own) => tkOf s.2) (fun (s : Nat × Own) nt => s.1 ≤ 4 ∧ ownLt s.2 nt) (fun (s : Nat × Own) => 5 - s.1) ((0, .full)) (by simp only [go_sem, ↓reduceIte, Nat.reduceEqDiff, Nat.reduceAdd, Nat.reduceLT, Nat.reduceLeDiff, reduceCtorEq]; rfl) (by first | rfl | (simp only [go_sem, ↓reduceIte, Nat.reduceEqDiff, Nat.reduceAdd, Nat.reduceLT, Nat.reduceLeDiff, reduceCtorEq]; rfl)) (⟨by simp, trivial⟩) (by unfold ASubW; simp only [go_sem, ↓reduceIte, Nat.reduceEqDiff, Nat.reduceAdd, Nat.reduceLT, Nat.reduceLeDiff, reduceCtorEq, hk]; try simp [numsF_0, tkOf, LI, emptyA_nil]) ?_
  rintro ⟨k, own⟩ nt ⟨hk4, hinv⟩
  dsimp only at *
  have h1 := numsF_len (actQ w who what fs l) k
  have ho := ownOK_mem hinv (fun t h => h)
  have hs := numsF_m (actQ w who what fs l) k
  have hw : IntKind.i64.wrap ((k : Int) + 1) = ((k + 1 : Nat) : Int) := by rw [wrap_id (by omega)]; rfl
  by_cases hlt : k ≤ 3
  · have hc : decide ((k : Int) ≤ 3) = true := by simp; omega
    (repeat' (first | with_reducible (first | refine awp_seq ?_ | refine q7q ?_ | refine q7u ?_ | refine q7v ?_ | refine awp_ret ?_ | refine q7h ?_ | refine q7r ?_ | refine q7l ?_ | refine q7g ?_ | refine q7m ?_ | refine q7i ?_ | refine q7n rfl ?_ | (refine hK _ ?_; clear K hK) | refine q7o rfl ?_ | refine q7p rfl ?_ | intro hfact) | (with_reducible refine And.intro ?_ ?_; focus (first | assumption | omega | (simp; done) | ((repeat' apply And.intro) <;> first | assumption | omega) | ((repeat' split) <;> omega))) | ((first | with_reducible (first | ((refine q7t TT ?_); intro K hK) | ((refine q7k TT ?_); intro K hK) | ((refine q7s TT [] MX (by kernel_rfl) (by kernel_rfl) ?_); intro K hK) | ((refine q7j TT [] MX (by kernel_rfl) (by kernel_rfl) ?_); intro K hK)) | (with_reducible (first | refine q7e TT E (fun hb => ?_) (fun hb => ?_) | refine q7f TT E (fun hb => ?_) (fun hb => ?_) | refine q7c TT _ _ (fun hb => ?_) (fun hb => ?_) | refine q7d TT _ _ (fun hb => ?_) (fun hb => ?_)) <;> try simp only [hb]) | ((first | refine q7b TT E (allowed_ok _ _ _ _ _ _) rfl rfl ?_ | refine q7a TT _ _ (allowed_ok _ _ _ _ _ _) rfl rfl ?_); intro m hm; try dsimp only at hm)) <;> simp only [go_sem, ↓reduceIte, Int.reduceBEq, Int.reduceBNe, Nat.reduceEqDiff, Nat.reduceAdd, Nat.reduceMul, Nat.reduceSub, Nat.reduceLT, Nat.reduceBEq, Nat.reduceLeDiff, reduceCtorEq, Int.reduceToNat, Int.reduceNeg, Int.reduceEq, Int.reduceLE, Int.reduceLT, hw, hc]) | refine awp_cond rfl (fun hb => ?_) (fun hb => ?_)))
    · have hq : actQ w who what fs l k = true := hb
      refine ⟨(k + 1, .tok _), ⟨by dsimp only; omega, ownLt_tok⟩, by dsimp only; omega, (by unfold ASubW; simp only [go_sem, ↓reduceIte, Nat.reduceEqDiff, Nat.reduceAdd, Nat.reduceLT, Nat.reduceLeDiff, reduceCtorEq, hk, LI, hs, hq]; try simp)⟩
    · have hq : actQ w who what fs l k = false := hb
      refine ⟨(k + 1, own), ⟨by dsimp only; omega, ownLt_mono hinv (by dsimp only; omega)⟩, by dsimp only; omega, (by unfold ASubW; simp only [go_sem, ↓reduceIte, Nat.reduceEqDiff, Nat.reduceAdd, Nat.reduceLT, Nat.reduceLeDiff, reduceCtorEq, hk, LI, hs, hq]; try simp)⟩
  · obtain rfl : k = 4 := by omega
    have hc : decide (((4 : Nat) : Int) ≤ 3) = false := by decide
    (repeat' (first | with_reducible (first | refine awp_seq ?_ | refine q7q ?_ | refine q7u ?_ | refine q7v ?_ | refine awp_ret ?_ | refine q7h ?_ | refine q7r ?_ | refine q7l ?_ | refine q7g ?_ | refine q7m ?_ | refine q7i ?_ | refine q7n rfl ?_ | (refine hK _ ?_; clear K hK) | refine q7o rfl ?_ | refine q7p rfl ?_ | intro hfact) | (with_reducible refine And.intro ?_ ?_; focus (first | assumption | omega | (simp; done) | ((repeat' apply And.intro) <;> first | assumption | omega) | ((repeat' split) <;> omega))) | ((first | with_reducible (first | ((refine q7t TT ?_); intro K hK) | ((refine q7k TT ?_); intro K hK) | ((refine q7s TT [] MX (by kernel_rfl) (by kernel_rfl) ?_); intro K hK) | ((refine q7j TT [] MX (by kernel_rfl) (by kernel_rfl) ?_); intro K hK)) | (with_reducible (first | refine q7e TT E (fun hb => ?_) (fun hb => ?_) | refine q7f TT E (fun hb => ?_) (fun hb => ?_) | refine q7c TT _ _ (fun hb => ?_) (fun hb => ?_) | refine q7d TT _ _ (fun hb => ?_) (fun hb => ?_)) <;> try simp only [hb]) | ((first | refine q7b TT E (allowed_ok _ _ _ _ _ _) rfl rfl ?_ | refine q7a TT _ _ (allowed_ok _ _ _ _ _ _) rfl rfl ?_); intro m hm; try dsimp only at hm)) <;> simp only [go_sem, ↓reduceIte, Int.reduceBEq, Int.reduceBNe, Nat.reduceEqDiff, Nat.reduceAdd, Nat.reduceMul, Nat.reduceSub, Nat.reduceLT, Nat.reduceBEq, Nat.reduceLeDiff, reduceCtorEq, Int.reduceToNat, Int.reduceNeg, Int.reduceEq, Int.reduceLE, Int.reduceLT, hc])))
    refine ret_givesE TT (by simp only [go_sem, ↓reduceIte, Nat.reduceEqDiff, Nat.reduceAdd, Nat.reduceLT, Nat.reduceLeDiff, reduceCtorEq, Tryz.results78]; rfl) rfl ?_; simp [resV, actsB, AV.erR, AV.er, DV.er, er_encI]
end Go.Proofs.YtmlnpimlfbfkbaaGreat
