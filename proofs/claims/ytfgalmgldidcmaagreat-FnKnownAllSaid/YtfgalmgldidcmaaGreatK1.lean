/- Walks of functions of the cut by the abstract logic, and what they compute. Filled by a program of mine from a template. -/
import Derived.Test.YtfgalmgldidcmaaGreatF0
namespace Go.Proofs.YtfgalmgldidcmaaGreat
open Go Go.AL
set_option linter.unusedSimpArgs false
set_option linter.unusedVariables false

def knows (ks : List (List UInt8)) (v : List UInt8) : Bool := ks.any (· == v)
theorem knows_cons (k : List UInt8) (ks : List (List UInt8)) (v : List UInt8) : knows (k :: ks) v = (k == v || knows ks v) := rfl
theorem knows_mem {ks : List (List UInt8)} {v : List UInt8} (h : v ∈ ks) : knows ks v = true := List.any_eq_true.2 ⟨v, h, by simp⟩
/-- Where a text is. -/
def ixS (v : List UInt8) : List (List UInt8) → Int → Int
  | [], _ => -1
  | x :: r, k => if v = x then k else ixS v r (k + 1)
theorem ixS_any (v : List UInt8) (l : List (List UInt8)) : ∀ k : Int, 0 ≤ k → decide (0 ≤ ixS v l k) = knows l v := by
  induction l with
  | nil => intro k _; simp [ixS, knows]
  | cons x l ih =>
    intro k hk
    rw [ixS, knows_cons]
    by_cases h : v = x
    · subst h; simp [hk]
    · rw [if_neg h, ih (k + 1) (by omega)]
      have : (x == v) = false := by simpa using fun e => h e.symm
      simp [this]
theorem ixS_ge (v : List UInt8) (l : List (List UInt8)) : decide (ixS v l 0 ≥ 0) = knows l v := ixS_any v l 0 (Int.le_refl _)

theorem index_ok (l : List (List UInt8)) (v : List UInt8) : Gives Tryz.prog 60 [LS l, S v] (I (ixS v l 0)) := by
  refine ac_of_body TT Tryz.call60 Tryz.func60 rfl (by simp [Tryz.ntmps60]) (by kernel_rfl) fun E hk => ?_
  (repeat' (first | with_reducible (first | refine awp_seq ?_ | refine awp_block ?_ | refine awp_skip ?_ | refine awp_exit ?_ | refine awp_ret ?_ | refine athen_normal ?_ | refine athen_ret ?_ | refine athen_exit ?_ | refine ablock_normal ?_ | refine ablock_ret ?_ | refine ablock_here ?_ | refine ablock_far rfl ?_ | (refine hK _ ?_; clear K hK) | refine awp_cond_t rfl ?_ | refine awp_cond_f rfl ?_ | intro hfact) | (with_reducible refine And.intro ?_ ?_; focus (first | assumption | omega | (simp; done) | ((repeat' apply And.intro) <;> first | assumption | omega) | ((repeat' split) <;> omega))) | ((first | with_reducible (first | ((refine awp_seqr TT ?_); intro K hK) | ((refine awp_region TT ?_); intro K hK) | ((refine awp_seqrF TT [] MX (by kernel_rfl) (by kernel_rfl) ?_); intro K hK) | ((refine awp_regionF TT [] MX (by kernel_rfl) (by kernel_rfl) ?_); intro K hK)) | (with_reducible (first | refine guard_split_t TT E (fun hb => ?_) (fun hb => ?_) | refine guard_split_f TT E (fun hb => ?_) (fun hb => ?_) | refine guardD_split_t TT _ _ (fun hb => ?_) (fun hb => ?_) | refine guardD_split_f TT _ _ (fun hb => ?_) (fun hb => ?_)) <;> try simp only [hb])) <;> simp only [go_sem, ↓reduceIte, Int.reduceBEq, Int.reduceBNe, Nat.reduceEqDiff, Nat.reduceAdd, Nat.reduceMul, Nat.reduceSub, Nat.reduceLT, Nat.reduceBEq, Nat.reduceLeDiff, reduceCtorEq, Int.reduceToNat, Int.reduceNeg, Int.reduceEq, Int.reduceLE, Int.reduceLT])))
  refine awp_zip (l) (List.length (l)) 0 [] [0, 1, 7] (fun k st => [(8, I k)]) (fun obs k st => obs) (fun k st => []) (fun k rest st nt => ixS v rest k = ixS v l 0) (()) (by first | rfl | (simp; done) | (simp; omega)) (by first | rfl | (simp only [go_sem, ↓reduceIte, Nat.reduceEqDiff, Nat.reduceAdd, Nat.reduceLT, Nat.reduceLeDiff, reduceCtorEq]; done) | (simp only [go_sem, ↓reduceIte, Nat.reduceEqDiff, Nat.reduceAdd, Nat.reduceLT, Nat.reduceLeDiff, reduceCtorEq]; simp; done)) (by simp only [go_sem, ↓reduceIte, Nat.reduceEqDiff, Nat.reduceAdd, Nat.reduceLT, Nat.reduceLeDiff, reduceCtorEq]; rfl) (by first | rfl | (simp only [go_sem, ↓reduceIte, Nat.reduceEqDiff, Nat.reduceAdd, Nat.reduceLT, Nat.reduceLeDiff, reduceCtorEq]; rfl)) (rfl) (by unfold ASubW; simp only [go_sem, ↓reduceIte, Nat.reduceEqDiff, Nat.reduceAdd, Nat.reduceLT, Nat.reduceLeDiff, reduceCtorEq, hk]; try simp) ?_ ?_
  · rintro st nt hmax hinv
    (repeat' (first | with_reducible (first | refine awp_seq ?_ | refine awp_block ?_ | refine awp_skip ?_ | refine awp_exit ?_ | refine awp_ret ?_ | refine athen_normal ?_ | refine athen_ret ?_ | refine athen_exit ?_ | refine ablock_normal ?_ | refine ablock_ret ?_ | refine ablock_here ?_ | refine ablock_far rfl ?_ | (refine hK _ ?_; clear K hK) | refine awp_cond_t rfl ?_ | refine awp_cond_f rfl ?_ | intro hfact) | (with_reducible refine And.intro ?_ ?_; focus (first | assumption | omega | (simp; done) | ((repeat' apply And.intro) <;> first | assumption | omega) | ((repeat' split) <;> omega))) | ((first | with_reducible (first | ((refine awp_seqr TT ?_); intro K hK) | ((refine awp_region TT ?_); intro K hK) | ((refine awp_seqrF TT [] MX (by kernel_rfl) (by kernel_rfl) ?_); intro K hK) | ((refine awp_regionF TT [] MX (by kernel_rfl) (by kernel_rfl) ?_); intro K hK)) | (with_reducible (first | refine guard_split_t TT E (fun hb => ?_) (fun hb => ?_) | refine guard_split_f TT E (fun hb => ?_) (fun hb => ?_) | refine guardD_split_t TT _ _ (fun hb => ?_) (fun hb => ?_) | refine guardD_split_f TT _ _ (fun hb => ?_) (fun hb => ?_)) <;> try simp only [hb])) <;> simp only [go_sem, ↓reduceIte, Int.reduceBEq, Int.reduceBNe, Nat.reduceEqDiff, Nat.reduceAdd, Nat.reduceMul, Nat.reduceSub, Nat.reduceLT, Nat.reduceBEq, Nat.reduceLeDiff, reduceCtorEq, Int.reduceToNat, Int.reduceNeg, Int.reduceEq, Int.reduceLE, Int.reduceLT])))
    refine ret_gives TT (by simp only [go_sem, ↓reduceIte, Nat.reduceEqDiff, Nat.reduceAdd, Nat.reduceLT, Nat.reduceLeDiff, reduceCtorEq, Tryz.results60]; rfl) rfl ?_; simp [resV, ← hinv, ixS]
  · rintro k x rest st nt hA hinv
    rw [ixS] at hinv
    (repeat' (first | with_reducible (first | refine awp_seq ?_ | refine awp_block ?_ | refine awp_skip ?_ | refine awp_exit ?_ | refine awp_ret ?_ | refine athen_normal ?_ | refine athen_ret ?_ | refine athen_exit ?_ | refine ablock_normal ?_ | refine ablock_ret ?_ | refine ablock_here ?_ | refine ablock_far rfl ?_ | (refine hK _ ?_; clear K hK) | refine awp_cond_t rfl ?_ | refine awp_cond_f rfl ?_ | intro hfact) | (with_reducible refine And.intro ?_ ?_; focus (first | assumption | omega | (simp; done) | ((repeat' apply And.intro) <;> first | assumption | omega) | ((repeat' split) <;> omega))) | ((first | with_reducible (first | ((refine awp_seqr TT ?_); intro K hK) | ((refine awp_region TT ?_); intro K hK) | ((refine awp_seqrF TT [] MX (by kernel_rfl) (by kernel_rfl) ?_); intro K hK) | ((refine awp_regionF TT [] MX (by kernel_rfl) (by kernel_rfl) ?_); intro K hK)) | (with_reducible (first | refine guard_split_t TT E (fun hb => ?_) (fun hb => ?_) | refine guard_split_f TT E (fun hb => ?_) (fun hb => ?_) | refine guardD_split_t TT _ _ (fun hb => ?_) (fun hb => ?_) | refine guardD_split_f TT _ _ (fun hb => ?_) (fun hb => ?_)) <;> try simp only [hb])) <;> simp only [go_sem, ↓reduceIte, Int.reduceBEq, Int.reduceBNe, Nat.reduceEqDiff, Nat.reduceAdd, Nat.reduceMul, Nat.reduceSub, Nat.reduceLT, Nat.reduceBEq, Nat.reduceLeDiff, reduceCtorEq, Int.reduceToNat, Int.reduceNeg, Int.reduceEq, Int.reduceLE, Int.reduceLT, hA.d, hA.w, hA.lt, hA.g, encS]) | refine awp_condN rfl (fun hb => ?_) (fun hb => ?_) | refine awp_condP rfl (fun hb => ?_) (fun hb => ?_) | refine awp_cond rfl (fun hb => ?_) (fun hb => ?_)))
    all_goals simp at hb
    all_goals first
      | (rw [if_pos hb] at hinv; refine ret_gives TT (by simp only [go_sem, ↓reduceIte, Nat.reduceEqDiff, Nat.reduceAdd, Nat.reduceLT, Nat.reduceLeDiff, reduceCtorEq, Tryz.results60]; rfl) rfl ?_; simp [resV, hinv]; done)
      | (rw [if_neg hb] at hinv; refine ⟨(), hinv, (by unfold ASubW; simp only [go_sem, ↓reduceIte, Nat.reduceEqDiff, Nat.reduceAdd, Nat.reduceLT, Nat.reduceLeDiff, reduceCtorEq, hk]; try simp)⟩)
theorem has_ok (l : List (List UInt8)) (v : List UInt8) : Gives Tryz.prog 41 [LS l, S v] (B (knows l v)) := by
  refine ac_of_body TT Tryz.call41 Tryz.func41 rfl (by simp [Tryz.ntmps41]) (by kernel_rfl) fun E hk => ?_
  (repeat' (first | with_reducible (first | refine awp_seq ?_ | refine awp_block ?_ | refine awp_skip ?_ | refine awp_exit ?_ | refine awp_ret ?_ | refine athen_normal ?_ | refine athen_ret ?_ | refine athen_exit ?_ | refine ablock_normal ?_ | refine ablock_ret ?_ | refine ablock_here ?_ | refine ablock_far rfl ?_ | (refine hK _ ?_; clear K hK) | refine awp_cond_t rfl ?_ | refine awp_cond_f rfl ?_ | intro hfact) | (with_reducible refine And.intro ?_ ?_; focus (first | assumption | omega | (simp; done) | ((repeat' apply And.intro) <;> first | assumption | omega) | ((repeat' split) <;> omega))) | ((first | with_reducible (first | ((refine awp_seqr TT ?_); intro K hK) | ((refine awp_region TT ?_); intro K hK) | ((refine awp_seqrF TT [] MX (by kernel_rfl) (by kernel_rfl) ?_); intro K hK) | ((refine awp_regionF TT [] MX (by kernel_rfl) (by kernel_rfl) ?_); intro K hK)) | (with_reducible (first | refine guard_split_t TT E (fun hb => ?_) (fun hb => ?_) | refine guard_split_f TT E (fun hb => ?_) (fun hb => ?_) | refine guardD_split_t TT _ _ (fun hb => ?_) (fun hb => ?_) | refine guardD_split_f TT _ _ (fun hb => ?_) (fun hb => ?_)) <;> try simp only [hb]) | ((first | refine callK_pure TT E (index_ok _ _) rfl rfl ?_ | refine callKD_pure TT _ _ (index_ok _ _) rfl rfl ?_); intro m hm; try dsimp only at hm)) <;> simp only [go_sem, ↓reduceIte, Int.reduceBEq, Int.reduceBNe, Nat.reduceEqDiff, Nat.reduceAdd, Nat.reduceMul, Nat.reduceSub, Nat.reduceLT, Nat.reduceBEq, Nat.reduceLeDiff, reduceCtorEq, Int.reduceToNat, Int.reduceNeg, Int.reduceEq, Int.reduceLE, Int.reduceLT])))
  refine ret_gives TT (by simp only [go_sem, ↓reduceIte, Nat.reduceEqDiff, Nat.reduceAdd, Nat.reduceLT, Nat.reduceLeDiff, reduceCtorEq, Tryz.results41]; rfl) rfl ?_
  simp only [resV]; rw [← ixS_ge]

/-- The fields with known names. -/
def knownF (l : List Field) (ks : List (List UInt8)) : List Field := l.filter fun f => knows ks f.name
end Go.Proofs.YtfgalmgldidcmaaGreat
