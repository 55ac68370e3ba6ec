/- Walks of functions of the cut by the abstract logic, and what they compute. Filled by a program of mine from a template. -/
import Derived.Test.YtaolcbhncnpldaaGreatDoorF0
namespace Go.Proofs.YtaolcbhncnpldaaGreatDoor
open Go Go.AL
set_option linter.unusedSimpArgs false
set_option linter.unusedVariables false

/-- A valid value among many things. -/
def valB (k n many : Int) : Bool := if k = 1 then inB n 0 1 else if k = 2 then inB n 0 99 else if k = 3 then (decide (0 ≤ n) && decide (n < many)) else false
theorem val_ok (k n many : Int) : Gives Tryz.prog 131 [.agg [.int .i64 k, .int .i64 n], I many] (B (valB k n many)) := by
  refine ac_of_body TT Tryz.call131 Tryz.func131 rfl (by simp [Tryz.ntmps131]) (by kernel_rfl) fun E hk => ?_
  (repeat' (first | with_reducible (first | refine awp_seq ?_ | refine awp_block ?_ | refine awp_skip ?_ | refine awp_exit ?_ | refine awp_ret ?_ | refine athen_normal ?_ | refine athen_ret ?_ | refine athen_exit ?_ | refine ablock_normal ?_ | refine ablock_ret ?_ | refine ablock_here ?_ | refine ablock_far rfl ?_ | (refine hK _ ?_; clear K hK) | refine awp_cond_t rfl ?_ | refine awp_cond_f rfl ?_ | intro hfact) | (with_reducible refine And.intro ?_ ?_; focus (first | assumption | omega | (simp; done) | ((repeat' apply And.intro) <;> first | assumption | omega) | ((repeat' split) <;> omega))) | ((first | with_reducible (first | ((refine awp_seqr TT ?_); intro K hK) | ((refine awp_region TT ?_); intro K hK) | ((refine awp_seqrF TT [] MX (by kernel_rfl) (by kernel_rfl) ?_); intro K hK) | ((refine awp_regionF TT [] MX (by kernel_rfl) (by kernel_rfl) ?_); intro K hK)) | (with_reducible (first | refine guard_split_t TT E (fun hb => ?_) (fun hb => ?_) | refine guard_split_f TT E (fun hb => ?_) (fun hb => ?_) | refine guardD_split_t TT _ _ (fun hb => ?_) (fun hb => ?_) | refine guardD_split_f TT _ _ (fun hb => ?_) (fun hb => ?_)) <;> try simp only [hb]) | ((first | refine callK_pure TT E (in_ok _ _ _) rfl rfl ?_ | refine callKD_pure TT _ _ (in_ok _ _ _) rfl rfl ?_); intro m hm; try dsimp only at hm)) <;> simp only [go_sem, ↓reduceIte, Int.reduceBEq, Int.reduceBNe, Nat.reduceEqDiff, Nat.reduceAdd, Nat.reduceMul, Nat.reduceSub, Nat.reduceLT, Nat.reduceBEq, Nat.reduceLeDiff, reduceCtorEq, Int.reduceToNat, Int.reduceNeg, Int.reduceEq, Int.reduceLE, Int.reduceLT]) | refine awp_condN rfl (fun hb => ?_) (fun hb => ?_) | refine awp_condP rfl (fun hb => ?_) (fun hb => ?_) | refine awp_cond rfl (fun hb => ?_) (fun hb => ?_)))
  all_goals (refine ret_gives TT (by simp only [go_sem, ↓reduceIte, Nat.reduceEqDiff, Nat.reduceAdd, Nat.reduceLT, Nat.reduceLeDiff, reduceCtorEq, Tryz.results131]; rfl) rfl ?_; simp_all [resV, valB] <;> (try (intros; omega)))

def fieldsGo (many : Int) : List Field → List Field → Bool
  | _, [] => true
  | pre, f :: r => nameB f.name && !(pre.any fun y => y.name == f.name) && valB f.kind f.number many && fieldsGo many (pre ++ [f]) r
/-- Valid fields among many things. -/
def fieldsB (l : List Field) (many : Int) : Bool := fieldsGo many [] l && decide ((l.length : Int) ≤ 4)

def worldGo (n : Nat) : Nat → List Thing → Bool
  | _, [] => true
  | k, t :: r => ascB t.groups 0 ((k : Int) - 1) && fieldsB t.fields n && worldGo n (k + 1) r
/-- A valid world. -/
def worldB (w : List Thing) : Bool := worldGo w.length 0 w && decide ((w.length : Int) ≤ 7)



end Go.Proofs.YtaolcbhncnpldaaGreatDoor
