/- Walks of functions of the cut by the abstract logic, and what they compute. Filled by a program of mine from a template. -/
import Derived.Test.YtnhfakijgbkadaaDoorT2
import Derived.Test.YtnhfakijgbkadaaDoorE1
namespace Go.Proofs.YtnhfakijgbkadaaDoor
open Go Go.AL
set_option linter.unusedSimpArgs false
set_option linter.unusedVariables false

/-- A drawn text. -/
def isS (v : AV) : Prop := ∃ s : List UInt8, v = S s ∧ s.length ≤ 16
theorem l20Name_ok (l : List Int) (p : Nat) (n : Int) (hl : okB l) (hp : p + 2 ≤ 1099511627776) : Draw Tryd.prog 37 l p 2 [I n] (isS) := by
  refine ⟨?_, by rintro _ ⟨x, rfl, _⟩; rfl, ⟨_, [], rfl, by simp⟩⟩
  refine ac_of_body TT Tryd.call37 Tryd.func37 rfl (by simp [Tryd.ntmps37]) (by kernel_rfl) fun E hk => ?_
  (repeat' (first | with_reducible (first | refine awp_seq ?_ | refine awp_block ?_ | refine awp_skip ?_ | refine awp_exit ?_ | refine awp_ret ?_ | refine athen_normal ?_ | refine athen_ret ?_ | refine athen_exit ?_ | refine ablock_normal ?_ | refine ablock_ret ?_ | refine ablock_here ?_ | refine ablock_far rfl ?_ | (refine hK _ ?_; clear K hK) | refine awp_cond_t rfl ?_ | refine awp_cond_f rfl ?_ | intro hfact) | (with_reducible refine And.intro ?_ ?_; focus (first | assumption | omega | (simp; done) | ((repeat' apply And.intro) <;> first | assumption | omega) | ((repeat' split) <;> omega))) | ((first | with_reducible (first | ((refine awp_seqr TT ?_); intro K hK) | ((refine awp_region TT ?_); intro K hK) | ((refine awp_seqrF TT [0] MX (by kernel_rfl) (by kernel_rfl) ?_); intro K hK) | ((refine awp_regionF TT [0] MX (by kernel_rfl) (by kernel_rfl) ?_); intro K hK)) | (with_reducible (first | refine guard_split_t TT E (fun hb => ?_) (fun hb => ?_) | refine guard_split_f TT E (fun hb => ?_) (fun hb => ?_) | refine guardD_split_t TT _ _ (fun hb => ?_) (fun hb => ?_) | refine guardD_split_f TT _ _ (fun hb => ?_) (fun hb => ?_)) <;> try simp only [hb]) | (((first | refine callK_draw TT E (odd _ _ _ hl (by omega)) rfl rfl ?_ | refine callKD_draw TT _ _ (odd _ _ _ hl (by omega)) rfl rfl (by simp) ?_); intro r p' m hr hp1 hp2 hm; try dsimp only at hm); obtain ⟨u, rfl⟩ := hr) | (((first | refine callK_draw TT E (pick _ _ _ hl (by omega)) rfl rfl ?_ | refine callKD_draw TT _ _ (pick _ _ _ hl (by omega)) rfl rfl (by simp) ?_); intro r p' m hr hp1 hp2 hm; try dsimp only at hm); obtain ⟨u, rfl, hu1, hu2⟩ := hr)) <;> simp only [go_sem, ↓reduceIte, Int.reduceBEq, Int.reduceBNe, Nat.reduceEqDiff, Nat.reduceAdd, Nat.reduceMul, Nat.reduceSub, Nat.reduceLT, Nat.reduceBEq, Nat.reduceLeDiff, reduceCtorEq, Int.reduceToNat, Int.reduceNeg, Int.reduceEq, Int.reduceLE, Int.reduceLT]) | refine awp_condN rfl (fun hb => ?_) (fun hb => ?_) | refine awp_condP rfl (fun hb => ?_) (fun hb => ?_) | refine awp_cond rfl (fun hb => ?_) (fun hb => ?_)))
  all_goals
    refine ret_lent TT (by simp only [go_sem, ↓reduceIte, Nat.reduceEqDiff, Nat.reduceAdd, Nat.reduceLT, Nat.reduceLeDiff, reduceCtorEq, Tryd.results37]; rfl) rfl ?_
    refine ⟨⟨_, rfl, ?_⟩, ⟨_, ?_, ?_, rfl⟩, rfl⟩
    · (repeat' split) <;> simp
    · omega
    · omega
/-- A drawn expression, with at most c expressions in it. -/
def isE (c : Nat) (v : AV) : Prop := ∃ e : Expr, v = .agg [.int .i64 e.kind, .int .i64 e.number, .str e.name, .sl 4 (e.parts.map encE) .no] ∧ cntE e ≤ c
def isE1 (c : Nat) (x : List DV) : Prop := ∃ e : Expr, erL x = encE e ∧ cntE e ≤ c
def isEs (c : Nat) (X : List (List DV)) : Prop := ∃ ps : List Expr, erLL X = ps.map encE ∧ cntEs ps ≤ c
def cT : Nat → Nat
  | 0 => 2
  | d + 1 => 2 * cT d + 4 * d + 8

end Go.Proofs.YtnhfakijgbkadaaDoor
