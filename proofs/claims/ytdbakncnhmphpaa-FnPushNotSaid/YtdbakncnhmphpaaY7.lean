/- Walks of functions of the cut by the abstract logic, and what they compute. Filled by a program of mine from a template. -/
import Derived.Test.YtdbakncnhmphpaaY6
namespace Go.Proofs.Ytdbakncnhmphpaa
open Go Go.AL
set_option linter.unusedSimpArgs false
set_option linter.unusedVariables false
theorem l23_ok : ∀ (e : Expr) (t : Bool), goodE e = true → cntE e ≤ 1000000 → Gives Try.prog 26 [EAx e, B t] (EAx (pushE e t)) := by
  intro e
  induction e using Expr.ind with
  | h k n nm ps ih =>
  intro t hg hc
  rw [goodE, Bool.and_eq_true] at hg
  have hcm := hc
  rw [cntE_mk] at hcm
  rw [pushE_mk]
  have hcp := scopy_all (.mk k n nm ps) (by omega)
  dsimp only [EAx, Expr.kind, Expr.number, Expr.name, Expr.parts] at hcp ⊢
  have hnode := hg.1
  simp only [nodeB, Bool.and_eq_true, inB_t] at hnode
  obtain ⟨⟨⟨⟨⟨hk0, hk15⟩, hn0⟩, hpl⟩, hnm⟩, _⟩ := hnode
  have hLl : ((ps.length : Nat) : Int) = partsN k := by simpa using hpl
  clear hpl
  refine AC.erR ?_
  by_cases h13 : k = 13
  · subst h13
    simp [partsN] at hLl
    have h1 : ps.length = 1 := by omega
    obtain ⟨x, rfl⟩ := one_of h1
    have hx := ih x (by simp) (!t) (goodEs_of hg.2 x (by simp)) (by have := cntEs_mem (List.mem_singleton.2 rfl : x ∈ [x]); omega)
    rw [pushEs_one]
    refine ac_of_body TT Try.call26 Try.func26 rfl (by simp [Try.ntmps26]) (by kernel_rfl) fun E hk => ?_
    (repeat' (first | with_reducible (first | refine awp_seq ?_ | refine awp_block ?_ | refine awp_skip ?_ | refine awp_exit ?_ | refine awp_ret ?_ | refine athen_normal ?_ | refine athen_ret ?_ | refine athen_exit ?_ | refine ablock_normal ?_ | refine ablock_ret ?_ | refine ablock_here ?_ | refine ablock_far rfl ?_ | (refine hK _ ?_; clear K hK) | refine awp_cond_t rfl ?_ | refine awp_cond_f rfl ?_ | intro hfact) | (with_reducible refine And.intro ?_ ?_; focus (first | assumption | omega | (simp; done) | ((repeat' apply And.intro) <;> first | assumption | omega) | ((repeat' split) <;> omega))) | ((first | with_reducible (first | ((refine awp_seqr TT ?_); intro K hK) | ((refine awp_region TT ?_); intro K hK) | ((refine awp_seqrF TT [] MX (by kernel_rfl) (by kernel_rfl) ?_); intro K hK) | ((refine awp_regionF TT [] MX (by kernel_rfl) (by kernel_rfl) ?_); intro K hK)) | (with_reducible (first | refine guard_split_t TT E (fun hb => ?_) (fun hb => ?_) | refine guard_split_f TT E (fun hb => ?_) (fun hb => ?_) | refine guardD_split_t TT _ _ (fun hb => ?_) (fun hb => ?_) | refine guardD_split_f TT _ _ (fun hb => ?_) (fun hb => ?_)) <;> try simp only [hb]) | ((first | refine callK_pure TT E (hx) rfl rfl ?_ | refine callKD_pure TT _ _ (hx) rfl rfl ?_); intro m hm; try dsimp only at hm) | ((first | refine callK_pure TT E (scopy_all (.mk _ _ _ _) (by first | assumption | omega | (refine (?_ : (0 : Int) ≤ _ → _) ?_ <;> first | assumption | omega) | (simp; done) | (simp; omega))) rfl rfl ?_ | refine callKD_pure TT _ _ (scopy_all (.mk _ _ _ _) (by first | assumption | omega | (refine (?_ : (0 : Int) ≤ _ → _) ?_ <;> first | assumption | omega) | (simp; done) | (simp; omega))) rfl rfl ?_); intro m hm; try dsimp only at hm)) <;> simp only [go_sem, ↓reduceIte, Int.reduceBEq, Int.reduceBNe, Nat.reduceEqDiff, Nat.reduceAdd, Nat.reduceMul, Nat.reduceSub, Nat.reduceLT, Nat.reduceBEq, Nat.reduceLeDiff, reduceCtorEq, Int.reduceToNat, Int.reduceNeg, Int.reduceEq, Int.reduceLE, Int.reduceLT, encE_eq])))
    generalize pushE x (!t) = z at *
    obtain ⟨zk, zn, znm, zps⟩ := z
    refine ret_givesE TT (by simp only [go_sem, ↓reduceIte, Nat.reduceEqDiff, Nat.reduceAdd, Nat.reduceLT, Nat.reduceLeDiff, reduceCtorEq, Try.results26]; rfl) rfl ?_; simp [resV, EAx, AV.erR, AV.er, DV.er, erL, erLL, er_encE, Expr.kind, Expr.number, Expr.name, Expr.parts]
  by_cases h14 : k = 14 ∨ k = 15
  · have h2 : ps.length = 2 := by rcases h14 with rfl | rfl <;> simp [partsN] at hLl <;> omega
    have hn : n = 0 := by rcases h14 with rfl | rfl <;> simp [greatN] at hn0 <;> omega
    have hm : nm = [] := by rcases h14 with rfl | rfl <;> simpa [namedB] using hnm
    subst hn
    subst hm
    obtain ⟨x, y, rfl⟩ := two_ofE h2
    have hxc := cntEs_mem (List.mem_cons_self .. : x ∈ [x, y])
    have hyc := cntEs_mem (by simp : y ∈ [x, y])
    have hx := ih x (by simp) t (goodEs_of hg.2 x (by simp)) (by omega)
    have hy := ih y (by simp) t (goodEs_of hg.2 y (by simp)) (by omega)
    rw [pushEs_two x y t]
    generalize pushE x t = zx at hx ⊢
    generalize pushE y t = zy at hy ⊢
    refine ac_of_body TT Try.call26 Try.func26 rfl (by simp [Try.ntmps26]) (by kernel_rfl) fun E hk => ?_
    have hw1 : IntKind.i64.wrap (29 - 14) = 15 := by decide
    have hw2 : IntKind.i64.wrap (29 - 15) = 14 := by decide
    rcases h14 with rfl | rfl <;> cases t
    all_goals (repeat' (first | with_reducible (first | refine awp_seq ?_ | refine awp_block ?_ | refine awp_skip ?_ | refine awp_exit ?_ | refine awp_ret ?_ | refine athen_normal ?_ | refine athen_ret ?_ | refine athen_exit ?_ | refine ablock_normal ?_ | refine ablock_ret ?_ | refine ablock_here ?_ | refine ablock_far rfl ?_ | (refine hK _ ?_; clear K hK) | refine awp_cond_t rfl ?_ | refine awp_cond_f rfl ?_ | intro hfact) | (with_reducible refine And.intro ?_ ?_; focus (first | assumption | omega | (simp; done) | ((repeat' apply And.intro) <;> first | assumption | omega) | ((repeat' split) <;> omega))) | ((first | with_reducible (first | ((refine awp_seqr TT ?_); intro K hK) | ((refine awp_region TT ?_); intro K hK) | ((refine awp_seqrF TT [] MX (by kernel_rfl) (by kernel_rfl) ?_); intro K hK) | ((refine awp_regionF TT [] MX (by kernel_rfl) (by kernel_rfl) ?_); intro K hK)) | (with_reducible (first | refine guard_split_t TT E (fun hb => ?_) (fun hb => ?_) | refine guard_split_f TT E (fun hb => ?_) (fun hb => ?_) | refine guardD_split_t TT _ _ (fun hb => ?_) (fun hb => ?_) | refine guardD_split_f TT _ _ (fun hb => ?_) (fun hb => ?_)) <;> try simp only [hb]) | ((first | refine callK_pure TT E (hx) rfl rfl ?_ | refine callKD_pure TT _ _ (hx) rfl rfl ?_); intro m hm; try dsimp only at hm) | ((first | refine callK_pure TT E (hy) rfl rfl ?_ | refine callKD_pure TT _ _ (hy) rfl rfl ?_); intro m hm; try dsimp only at hm) | ((first | refine callK_pure TT E (scopy_all (.mk _ _ _ _) (by first | assumption | omega | (refine (?_ : (0 : Int) ≤ _ → _) ?_ <;> first | assumption | omega) | (simp; done) | (simp; omega))) rfl rfl ?_ | refine callKD_pure TT _ _ (scopy_all (.mk _ _ _ _) (by first | assumption | omega | (refine (?_ : (0 : Int) ≤ _ → _) ?_ <;> first | assumption | omega) | (simp; done) | (simp; omega))) rfl rfl ?_); intro m hm; try dsimp only at hm)) <;> simp only [go_sem, ↓reduceIte, Int.reduceBEq, Int.reduceBNe, Nat.reduceEqDiff, Nat.reduceAdd, Nat.reduceMul, Nat.reduceSub, Nat.reduceLT, Nat.reduceBEq, Nat.reduceLeDiff, reduceCtorEq, Int.reduceToNat, Int.reduceNeg, Int.reduceEq, Int.reduceLE, Int.reduceLT, encE_eq, hw1, hw2])))
    all_goals obtain ⟨xk, xn, xnm, xps⟩ := zx
    all_goals obtain ⟨yk, yn, ynm, yps⟩ := zy
    all_goals (refine ret_givesE TT (by simp only [go_sem, ↓reduceIte, Nat.reduceEqDiff, Nat.reduceAdd, Nat.reduceLT, Nat.reduceLeDiff, reduceCtorEq, Try.results26]; rfl) rfl ?_; simp [resV, EAx, AV.erR, AV.er, DV.er, erL, erLL, er_encE, encE_eq, Expr.kind, Expr.number, Expr.name, Expr.parts])
  · have hc13 : (k == 13) = false := by simp [h13]
    have hc14 : (k == 14) = false := by simp; omega
    have hc15 : (k == 15) = false := by simp; omega
    refine ac_of_body TT Try.call26 Try.func26 rfl (by simp [Try.ntmps26]) (by kernel_rfl) fun E hk => ?_
    cases t
    all_goals (repeat' (first | with_reducible (first | refine awp_seq ?_ | refine awp_block ?_ | refine awp_skip ?_ | refine awp_exit ?_ | refine awp_ret ?_ | refine athen_normal ?_ | refine athen_ret ?_ | refine athen_exit ?_ | refine ablock_normal ?_ | refine ablock_ret ?_ | refine ablock_here ?_ | refine ablock_far rfl ?_ | (refine hK _ ?_; clear K hK) | refine awp_cond_t rfl ?_ | refine awp_cond_f rfl ?_ | intro hfact) | (with_reducible refine And.intro ?_ ?_; focus (first | assumption | omega | (simp; done) | ((repeat' apply And.intro) <;> first | assumption | omega) | ((repeat' split) <;> omega))) | ((first | with_reducible (first | ((refine awp_seqr TT ?_); intro K hK) | ((refine awp_region TT ?_); intro K hK) | ((refine awp_seqrF TT [] MX (by kernel_rfl) (by kernel_rfl) ?_); intro K hK) | ((refine awp_regionF TT [] MX (by kernel_rfl) (by kernel_rfl) ?_); intro K hK)) | (with_reducible (first | refine guard_split_t TT E (fun hb => ?_) (fun hb => ?_) | refine guard_split_f TT E (fun hb => ?_) (fun hb => ?_) | refine guardD_split_t TT _ _ (fun hb => ?_) (fun hb => ?_) | refine guardD_split_f TT _ _ (fun hb => ?_) (fun hb => ?_)) <;> try simp only [hb]) | ((first | refine callK_pure TT E (hcp) rfl rfl ?_ | refine callKD_pure TT _ _ (hcp) rfl rfl ?_); intro m hm; try dsimp only at hm) | ((first | refine callK_pure TT E (scopy_all (.mk _ _ _ _) (by first | assumption | omega | (refine (?_ : (0 : Int) ≤ _ → _) ?_ <;> first | assumption | omega) | (simp; done) | (simp; omega))) rfl rfl ?_ | refine callKD_pure TT _ _ (scopy_all (.mk _ _ _ _) (by first | assumption | omega | (refine (?_ : (0 : Int) ≤ _ → _) ?_ <;> first | assumption | omega) | (simp; done) | (simp; omega))) rfl rfl ?_); intro m hm; try dsimp only at hm)) <;> simp only [go_sem, ↓reduceIte, Int.reduceBEq, Int.reduceBNe, Nat.reduceEqDiff, Nat.reduceAdd, Nat.reduceMul, Nat.reduceSub, Nat.reduceLT, Nat.reduceBEq, Nat.reduceLeDiff, reduceCtorEq, Int.reduceToNat, Int.reduceNeg, Int.reduceEq, Int.reduceLE, Int.reduceLT, encE_eq, hc13, hc14, hc15])))
    all_goals (refine ret_givesE TT (by simp only [go_sem, ↓reduceIte, Nat.reduceEqDiff, Nat.reduceAdd, Nat.reduceLT, Nat.reduceLeDiff, reduceCtorEq, Try.results26]; rfl) rfl ?_; simp [resV, h13, h14, EAx, AV.erR, AV.er, DV.er, erL, erLL, er_encE, encE_eq]; try exact ⟨rfl, rfl, rfl, rfl⟩)
end Go.Proofs.Ytdbakncnhmphpaa
