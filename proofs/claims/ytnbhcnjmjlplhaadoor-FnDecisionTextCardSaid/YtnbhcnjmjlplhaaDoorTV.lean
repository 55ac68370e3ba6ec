/- Walks of functions of the cut by the abstract logic, and what they compute. Filled by a program of mine from a template. -/
import Derived.Test.YtnbhcnjmjlplhaaDoorTL
namespace Go.Proofs.YtnbhcnjmjlplhaaDoor
open Go Go.AL
set_option linter.unusedSimpArgs false
set_option linter.unusedVariables false
/-! ### Values and their texts -/
theorem dig1 {n : Int} (h : 0 ≤ n ∧ n ≤ 99) : IntKind.i64.wrap (48 + n.tmod 10) = 48 + n % 10 ∧ UInt8.ofNat (IntKind.u8.wrap (48 + n % 10)).toNat = UInt8.ofNat (48 + n.toNat % 10) := by
  have e : n.tmod 10 = n % 10 := Int.tmod_eq_emod_of_nonneg h.1
  have h2 : IntKind.u8.wrap (48 + n % 10) = 48 + n % 10 := by
    have : ∀ x : Fin 10, IntKind.u8.wrap (48 + (x.val : Int)) = 48 + (x.val : Int) := by decide
    have h3 := this ⟨(n % 10).toNat, by omega⟩
    rwa [show (((n % 10).toNat : Nat) : Int) = n % 10 by omega] at h3
  refine ⟨by rw [e]; exact wrap_id (by omega), ?_⟩
  rw [h2]
  congr 1
  omega
theorem l1num_ok (n : Int) (Hn0 : 0 ≤ n) (Hn1 : n ≤ 99) : Gives Tryd.prog 21 [I n] (S (decT n)) := by
  refine ac_of_body TT Tryd.call21 Tryd.func21 rfl (by simp [Tryd.ntmps21]) (by kernel_rfl) fun E hk => ?_
  obtain ⟨w1, w2⟩ := dig1 ⟨Hn0, Hn1⟩
  (repeat' (first | with_reducible (first | refine awp_seq ?_ | refine awp_block ?_ | refine awp_skip ?_ | refine awp_exit ?_ | refine awp_ret ?_ | refine athen_normal ?_ | refine athen_ret ?_ | refine athen_exit ?_ | refine ablock_normal ?_ | refine ablock_ret ?_ | refine ablock_here ?_ | refine ablock_far rfl ?_ | (refine hK _ ?_; clear K hK) | refine awp_cond_t rfl ?_ | refine awp_cond_f rfl ?_ | intro hfact) | (with_reducible refine And.intro ?_ ?_; focus (first | assumption | omega | (simp; done) | ((repeat' apply And.intro) <;> first | assumption | omega) | ((repeat' split) <;> omega))) | ((first | with_reducible (first | ((refine awp_seqr TT ?_); intro K hK) | ((refine awp_region TT ?_); intro K hK) | ((refine awp_seqrF TT [] MX (by kernel_rfl) (by kernel_rfl) ?_); intro K hK) | ((refine awp_regionF TT [] MX (by kernel_rfl) (by kernel_rfl) ?_); intro K hK)) | (with_reducible (first | refine guard_split_t TT E (fun hb => ?_) (fun hb => ?_) | refine guard_split_f TT E (fun hb => ?_) (fun hb => ?_) | refine guardD_split_t TT _ _ (fun hb => ?_) (fun hb => ?_) | refine guardD_split_f TT _ _ (fun hb => ?_) (fun hb => ?_)) <;> try simp only [hb])) <;> simp only [go_sem, ↓reduceIte, Int.reduceBEq, Int.reduceBNe, Nat.reduceEqDiff, Nat.reduceAdd, Nat.reduceMul, Nat.reduceSub, Nat.reduceLT, Nat.reduceBEq, Nat.reduceLeDiff, reduceCtorEq, Int.reduceToNat, Int.reduceNeg, Int.reduceEq, Int.reduceLE, Int.reduceLT, w1, w2])))
  refine awp_lp [] (fun (s : Int × List UInt8) => [(0, I s.1), (3, S s.2)]) (fun obs (s : Int × List UInt8) => obs) (fun (s : Int × List UInt8) => []) (fun (s : Int × List UInt8) nt => (s.1 = n ∧ s.2 = [UInt8.ofNat (48 + n.toNat % 10)]) ∨ (10 ≤ n ∧ s.1 = n / 10 ∧ s.2 = decT n)) (fun (s : Int × List UInt8) => s.1.toNat) ((n, [UInt8.ofNat (48 + n.toNat % 10)])) (by simp only [go_sem, ↓reduceIte, Nat.reduceEqDiff, Nat.reduceAdd, Nat.reduceLT, Nat.reduceLeDiff, reduceCtorEq]; rfl) (by first | rfl | (simp only [go_sem, ↓reduceIte, Nat.reduceEqDiff, Nat.reduceAdd, Nat.reduceLT, Nat.reduceLeDiff, reduceCtorEq]; rfl)) (.inl ⟨rfl, rfl⟩) (by unfold ASubW; simp only [go_sem, ↓reduceIte, Nat.reduceEqDiff, Nat.reduceAdd, Nat.reduceLT, Nat.reduceLeDiff, reduceCtorEq, hk]; try simp) ?_
  rintro ⟨q, out⟩ nt hi
  dsimp only at hi
  by_cases hq : 9 < q
  · obtain ⟨rfl, rfl⟩ := hi.resolve_right (by omega)
    have hd : q.tdiv 10 = q / 10 := Int.tdiv_eq_ediv_of_nonneg Hn0
    have hw : IntKind.i64.wrap (q / 10) = q / 10 := wrap_id (by omega)
    have hc : decide (9 < q) = true := by simpa using hq
    obtain ⟨w3, w4⟩ := dig1 (n := q / 10) (by omega)
    have hout : [UInt8.ofNat (48 + (q / 10).toNat % 10), UInt8.ofNat (48 + q.toNat % 10)] = decT q := by
      unfold decT d2
      rw [if_neg (by omega), show (q / 10).toNat % 10 = q.toNat / 10 by omega]
    (repeat' (first | with_reducible (first | refine awp_seq ?_ | refine awp_block ?_ | refine awp_skip ?_ | refine awp_exit ?_ | refine awp_ret ?_ | refine athen_normal ?_ | refine athen_ret ?_ | refine athen_exit ?_ | refine ablock_normal ?_ | refine ablock_ret ?_ | refine ablock_here ?_ | refine ablock_far rfl ?_ | (refine hK _ ?_; clear K hK) | refine awp_cond_t rfl ?_ | refine awp_cond_f rfl ?_ | intro hfact) | (with_reducible refine And.intro ?_ ?_; focus (first | assumption | omega | (simp; done) | ((repeat' apply And.intro) <;> first | assumption | omega) | ((repeat' split) <;> omega))) | ((first | with_reducible (first | ((refine awp_seqr TT ?_); intro K hK) | ((refine awp_region TT ?_); intro K hK) | ((refine awp_seqrF TT [] MX (by kernel_rfl) (by kernel_rfl) ?_); intro K hK) | ((refine awp_regionF TT [] MX (by kernel_rfl) (by kernel_rfl) ?_); intro K hK)) | (with_reducible (first | refine guard_split_t TT E (fun hb => ?_) (fun hb => ?_) | refine guard_split_f TT E (fun hb => ?_) (fun hb => ?_) | refine guardD_split_t TT _ _ (fun hb => ?_) (fun hb => ?_) | refine guardD_split_f TT _ _ (fun hb => ?_) (fun hb => ?_)) <;> try simp only [hb])) <;> simp only [go_sem, ↓reduceIte, Int.reduceBEq, Int.reduceBNe, Nat.reduceEqDiff, Nat.reduceAdd, Nat.reduceMul, Nat.reduceSub, Nat.reduceLT, Nat.reduceBEq, Nat.reduceLeDiff, reduceCtorEq, Int.reduceToNat, Int.reduceNeg, Int.reduceEq, Int.reduceLE, Int.reduceLT, hd, hw, hc, w3, w4])))
    refine ⟨(q / 10, [UInt8.ofNat (48 + (q / 10).toNat % 10), UInt8.ofNat (48 + q.toNat % 10)]), .inr ⟨by omega, rfl, hout⟩, by dsimp only; omega, (by unfold ASubW; simp only [go_sem, ↓reduceIte, Nat.reduceEqDiff, Nat.reduceAdd, Nat.reduceLT, Nat.reduceLeDiff, reduceCtorEq, hk]; try simp)⟩
  · have hc : decide (9 < q) = false := by simpa using hq
    (repeat' (first | with_reducible (first | refine awp_seq ?_ | refine awp_block ?_ | refine awp_skip ?_ | refine awp_exit ?_ | refine awp_ret ?_ | refine athen_normal ?_ | refine athen_ret ?_ | refine athen_exit ?_ | refine ablock_normal ?_ | refine ablock_ret ?_ | refine ablock_here ?_ | refine ablock_far rfl ?_ | (refine hK _ ?_; clear K hK) | refine awp_cond_t rfl ?_ | refine awp_cond_f rfl ?_ | intro hfact) | (with_reducible refine And.intro ?_ ?_; focus (first | assumption | omega | (simp; done) | ((repeat' apply And.intro) <;> first | assumption | omega) | ((repeat' split) <;> omega))) | ((first | with_reducible (first | ((refine awp_seqr TT ?_); intro K hK) | ((refine awp_region TT ?_); intro K hK) | ((refine awp_seqrF TT [] MX (by kernel_rfl) (by kernel_rfl) ?_); intro K hK) | ((refine awp_regionF TT [] MX (by kernel_rfl) (by kernel_rfl) ?_); intro K hK)) | (with_reducible (first | refine guard_split_t TT E (fun hb => ?_) (fun hb => ?_) | refine guard_split_f TT E (fun hb => ?_) (fun hb => ?_) | refine guardD_split_t TT _ _ (fun hb => ?_) (fun hb => ?_) | refine guardD_split_f TT _ _ (fun hb => ?_) (fun hb => ?_)) <;> try simp only [hb])) <;> simp only [go_sem, ↓reduceIte, Int.reduceBEq, Int.reduceBNe, Nat.reduceEqDiff, Nat.reduceAdd, Nat.reduceMul, Nat.reduceSub, Nat.reduceLT, Nat.reduceBEq, Nat.reduceLeDiff, reduceCtorEq, Int.reduceToNat, Int.reduceNeg, Int.reduceEq, Int.reduceLE, Int.reduceLT, hc])))
    refine ret_gives TT (by simp only [go_sem, ↓reduceIte, Nat.reduceEqDiff, Nat.reduceAdd, Nat.reduceLT, Nat.reduceLeDiff, reduceCtorEq, Tryd.results21]; rfl) rfl ?_
    rcases hi with ⟨rfl, rfl⟩ | ⟨_, _, rfl⟩
    · simp only [resV, decT, d2]; rw [if_pos (by omega), Nat.mod_eq_of_lt (by omega)]
    · rfl
/-! ### Reading a value -/
open Classical in
noncomputable def readV (s : List UInt8) : Option (Int × Int) := if h : ∃ v : Int × Int, valB v.1 v.2 100 = true ∧ valT v.1 v.2 = s then some h.choose else none
def rvA (o : Option (Int × Int)) : AV := .tup [.agg [.int .i64 (fo1 o), .int .i64 (fo2 o)], .d (.bool o.isSome)]
end Go.Proofs.YtnbhcnjmjlplhaaDoor
