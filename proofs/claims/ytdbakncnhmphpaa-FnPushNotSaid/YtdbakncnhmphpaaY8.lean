/- Walks of functions of the cut by the abstract logic, and what they compute. Filled by a program of mine from a template. -/
import Derived.Test.YtdbakncnhmphpaaY7
import Derived.Test.YtdbakncnhmphpaaN1
import Derived.Test.YtdbakncnhmphpaaCoreE
namespace Go.Proofs.Ytdbakncnhmphpaa
open Go Go.AL
set_option linter.unusedSimpArgs false
set_option linter.unusedVariables false
/-! ### PushNot -/
theorem pushEs_cnt : ∀ (ps : List Expr) (t : Bool), (∀ e ∈ ps, cntE (pushE e t) ≤ 2 * cntE e) → cntEs (pushEs ps t) ≤ 2 * cntEs ps
  | [], t, _ => by rw [pushEs]; simp [cntEs]
  | e :: r, t, h => by
    have h1 := h e (by simp)
    have h2 := pushEs_cnt r t fun x hx => h x (by simp [hx])
    rw [pushEs]
    simp only [cntEs]
    omega
theorem getD_cnt (L : List Expr) : cntE (L.getD 0 (.mk 0 0 [] [])) ≤ 1 + cntEs L := by
  cases L with
  | nil => simp [cntE_mk, cntEs]
  | cons x r => simp [cntEs]; omega
theorem pushE_cnt : ∀ (e : Expr) (t : Bool), cntE (pushE e t) ≤ 2 * cntE e := by
  intro e
  induction e using Expr.ind with
  | h k n nm ps ih =>
  intro t
  rw [pushE_mk]
  have h1 := pushEs_cnt ps t fun x hx => ih x hx t
  have h2 := pushEs_cnt ps (!t) fun x hx => ih x hx (!t)
  have h3 := getD_cnt (pushEs ps (!t))
  have h0 := cntE_mk k n nm ps
  split
  · omega
  · split
    · rw [cntE_mk]; omega
    · split
      · rw [cntE_mk]; simp only [cntEs]; omega
      · omega
noncomputable def pushN (a b : List Kinded) (e : Expr) : Option Expr := if kindOfB a b e = 1 ∧ validE (pushE e false) = true then some (pushE e false) else none
def exprA (o : Option Expr) : AV := match o with
  | some e => .tup [EAx e, .d (.bool true)]
  | none => .tup [.agg [.int .i64 0, .int .i64 0, .str [], .sl 4 [] .no], .d (.bool false)]
theorem kind1 {a b : List Kinded} {e : Expr} (h : kindOfB a b e = 1) : goodE e = true ∧ cntE e ≤ 40 := by
  unfold kindOfB at h
  split at h
  · rename_i hc
    simp only [Bool.and_eq_true] at hc
    have := hc.2
    simp [validE] at this
    exact ⟨this.1.1, by omega⟩
  · cases h
theorem spushN_ok (a b : List Kinded) (k n : Int) (nm : List UInt8) (ps : List Expr) (Hc : cntE (.mk k n nm ps) ≤ 4611686018427387904) : Gives Try.prog 7 [.agg [.sl 2 (a.map encK) .no, .sl 2 (b.map encK) .no], .agg [.int .i64 k, .int .i64 n, .str nm, .sl 4 (ps.map encE) .no]] (exprA (pushN a b (.mk k n nm ps))) := by
  refine AC.erR ?_
  refine ac_of_body TT Try.call7 Try.func7 rfl (by simp [Try.ntmps7]) (by kernel_rfl) fun E hk => ?_
  by_cases h1 : kindOfB a b (.mk k n nm ps) = 1
  · obtain ⟨hg, hc⟩ := kind1 h1
    have hp := l23_ok (.mk k n nm ps) false hg (by omega)
    have hcn := pushE_cnt (.mk k n nm ps) false
    generalize hz : pushE (.mk k n nm ps) false = z at *
    obtain ⟨zk, zn, znm, zps⟩ := z
    dsimp only [EAx, Expr.kind, Expr.number, Expr.name, Expr.parts] at hp
    cases h2 : validE (.mk zk zn znm zps)
    · (repeat' (first | with_reducible (first | refine awp_seq ?_ | refine awp_block ?_ | refine awp_skip ?_ | refine awp_exit ?_ | refine awp_ret ?_ | refine athen_normal ?_ | refine athen_ret ?_ | refine athen_exit ?_ | refine ablock_normal ?_ | refine ablock_ret ?_ | refine ablock_here ?_ | refine ablock_far rfl ?_ | (refine hK _ ?_; clear K hK) | refine awp_cond_t rfl ?_ | refine awp_cond_f rfl ?_ | intro hfact) | (with_reducible refine And.intro ?_ ?_; focus (first | assumption | omega | (simp; done) | ((repeat' apply And.intro) <;> first | assumption | omega) | ((repeat' split) <;> omega))) | ((first | with_reducible (first | ((refine awp_seqr TT ?_); intro K hK) | ((refine awp_region TT ?_); intro K hK) | ((refine awp_seqrF TT [] MX (by kernel_rfl) (by kernel_rfl) ?_); intro K hK) | ((refine awp_regionF TT [] MX (by kernel_rfl) (by kernel_rfl) ?_); intro K hK)) | (with_reducible (first | refine guard_split_t TT E (fun hb => ?_) (fun hb => ?_) | refine guard_split_f TT E (fun hb => ?_) (fun hb => ?_) | refine guardD_split_t TT _ _ (fun hb => ?_) (fun hb => ?_) | refine guardD_split_f TT _ _ (fun hb => ?_) (fun hb => ?_)) <;> try simp only [hb]) | ((first | refine callK_pure TT E (hp) rfl rfl ?_ | refine callKD_pure TT _ _ (hp) rfl rfl ?_); intro m hm; try dsimp only at hm) | ((first | refine callK_pure TT E (skindOf_ok _ _ _ _ _ _ (by first | assumption | omega | (refine (?_ : (0 : Int) ≤ _ → _) ?_ <;> first | assumption | omega) | (simp; done) | (simp; omega))) rfl rfl ?_ | refine callKD_pure TT _ _ (skindOf_ok _ _ _ _ _ _ (by first | assumption | omega | (refine (?_ : (0 : Int) ≤ _ → _) ?_ <;> first | assumption | omega) | (simp; done) | (simp; omega))) rfl rfl ?_); intro m hm; try dsimp only at hm) | ((first | refine callK_pure TT E (svalid_ok _ _ _ _ (by first | assumption | omega | (refine (?_ : (0 : Int) ≤ _ → _) ?_ <;> first | assumption | omega) | (simp; done) | (simp; omega))) rfl rfl ?_ | refine callKD_pure TT _ _ (svalid_ok _ _ _ _ (by first | assumption | omega | (refine (?_ : (0 : Int) ≤ _ → _) ?_ <;> first | assumption | omega) | (simp; done) | (simp; omega))) rfl rfl ?_); intro m hm; try dsimp only at hm)) <;> simp only [go_sem, ↓reduceIte, Int.reduceBEq, Int.reduceBNe, Nat.reduceEqDiff, Nat.reduceAdd, Nat.reduceMul, Nat.reduceSub, Nat.reduceLT, Nat.reduceBEq, Nat.reduceLeDiff, reduceCtorEq, Int.reduceToNat, Int.reduceNeg, Int.reduceEq, Int.reduceLE, Int.reduceLT, h1, h2, bne_self_eq_false])))
      refine ret_givesE TT (by simp only [go_sem, ↓reduceIte, Nat.reduceEqDiff, Nat.reduceAdd, Nat.reduceLT, Nat.reduceLeDiff, reduceCtorEq, Try.results7]; rfl) rfl ?_; simp [resV, exprA, pushN, hz, h2, AV.erR, AV.er, DV.er, erL, erLL]
    · (repeat' (first | with_reducible (first | refine awp_seq ?_ | refine awp_block ?_ | refine awp_skip ?_ | refine awp_exit ?_ | refine awp_ret ?_ | refine athen_normal ?_ | refine athen_ret ?_ | refine athen_exit ?_ | refine ablock_normal ?_ | refine ablock_ret ?_ | refine ablock_here ?_ | refine ablock_far rfl ?_ | (refine hK _ ?_; clear K hK) | refine awp_cond_t rfl ?_ | refine awp_cond_f rfl ?_ | intro hfact) | (with_reducible refine And.intro ?_ ?_; focus (first | assumption | omega | (simp; done) | ((repeat' apply And.intro) <;> first | assumption | omega) | ((repeat' split) <;> omega))) | ((first | with_reducible (first | ((refine awp_seqr TT ?_); intro K hK) | ((refine awp_region TT ?_); intro K hK) | ((refine awp_seqrF TT [] MX (by kernel_rfl) (by kernel_rfl) ?_); intro K hK) | ((refine awp_regionF TT [] MX (by kernel_rfl) (by kernel_rfl) ?_); intro K hK)) | (with_reducible (first | refine guard_split_t TT E (fun hb => ?_) (fun hb => ?_) | refine guard_split_f TT E (fun hb => ?_) (fun hb => ?_) | refine guardD_split_t TT _ _ (fun hb => ?_) (fun hb => ?_) | refine guardD_split_f TT _ _ (fun hb => ?_) (fun hb => ?_)) <;> try simp only [hb]) | ((first | refine callK_pure TT E (hp) rfl rfl ?_ | refine callKD_pure TT _ _ (hp) rfl rfl ?_); intro m hm; try dsimp only at hm) | ((first | refine callK_pure TT E (skindOf_ok _ _ _ _ _ _ (by first | assumption | omega | (refine (?_ : (0 : Int) ≤ _ → _) ?_ <;> first | assumption | omega) | (simp; done) | (simp; omega))) rfl rfl ?_ | refine callKD_pure TT _ _ (skindOf_ok _ _ _ _ _ _ (by first | assumption | omega | (refine (?_ : (0 : Int) ≤ _ → _) ?_ <;> first | assumption | omega) | (simp; done) | (simp; omega))) rfl rfl ?_); intro m hm; try dsimp only at hm) | ((first | refine callK_pure TT E (svalid_ok _ _ _ _ (by first | assumption | omega | (refine (?_ : (0 : Int) ≤ _ → _) ?_ <;> first | assumption | omega) | (simp; done) | (simp; omega))) rfl rfl ?_ | refine callKD_pure TT _ _ (svalid_ok _ _ _ _ (by first | assumption | omega | (refine (?_ : (0 : Int) ≤ _ → _) ?_ <;> first | assumption | omega) | (simp; done) | (simp; omega))) rfl rfl ?_); intro m hm; try dsimp only at hm)) <;> simp only [go_sem, ↓reduceIte, Int.reduceBEq, Int.reduceBNe, Nat.reduceEqDiff, Nat.reduceAdd, Nat.reduceMul, Nat.reduceSub, Nat.reduceLT, Nat.reduceBEq, Nat.reduceLeDiff, reduceCtorEq, Int.reduceToNat, Int.reduceNeg, Int.reduceEq, Int.reduceLE, Int.reduceLT, h1, h2, bne_self_eq_false])))
      refine ret_givesE TT (by simp only [go_sem, ↓reduceIte, Nat.reduceEqDiff, Nat.reduceAdd, Nat.reduceLT, Nat.reduceLeDiff, reduceCtorEq, Try.results7]; rfl) rfl ?_; simp [resV, exprA, pushN, hz, h1, h2, AV.erR, AV.er, DV.er, erL, erLL, er_encE, EAx, Expr.kind, Expr.number, Expr.name, Expr.parts]
  · have hb : (kindOfB a b (.mk k n nm ps) != 1) = true := by simp [h1]
    (repeat' (first | with_reducible (first | refine awp_seq ?_ | refine awp_block ?_ | refine awp_skip ?_ | refine awp_exit ?_ | refine awp_ret ?_ | refine athen_normal ?_ | refine athen_ret ?_ | refine athen_exit ?_ | refine ablock_normal ?_ | refine ablock_ret ?_ | refine ablock_here ?_ | refine ablock_far rfl ?_ | (refine hK _ ?_; clear K hK) | refine awp_cond_t rfl ?_ | refine awp_cond_f rfl ?_ | intro hfact) | (with_reducible refine And.intro ?_ ?_; focus (first | assumption | omega | (simp; done) | ((repeat' apply And.intro) <;> first | assumption | omega) | ((repeat' split) <;> omega))) | ((first | with_reducible (first | ((refine awp_seqr TT ?_); intro K hK) | ((refine awp_region TT ?_); intro K hK) | ((refine awp_seqrF TT [] MX (by kernel_rfl) (by kernel_rfl) ?_); intro K hK) | ((refine awp_regionF TT [] MX (by kernel_rfl) (by kernel_rfl) ?_); intro K hK)) | (with_reducible (first | refine guard_split_t TT E (fun hb => ?_) (fun hb => ?_) | refine guard_split_f TT E (fun hb => ?_) (fun hb => ?_) | refine guardD_split_t TT _ _ (fun hb => ?_) (fun hb => ?_) | refine guardD_split_f TT _ _ (fun hb => ?_) (fun hb => ?_)) <;> try simp only [hb]) | ((first | refine callK_pure TT E (skindOf_ok _ _ _ _ _ _ (by first | assumption | omega | (refine (?_ : (0 : Int) ≤ _ → _) ?_ <;> first | assumption | omega) | (simp; done) | (simp; omega))) rfl rfl ?_ | refine callKD_pure TT _ _ (skindOf_ok _ _ _ _ _ _ (by first | assumption | omega | (refine (?_ : (0 : Int) ≤ _ → _) ?_ <;> first | assumption | omega) | (simp; done) | (simp; omega))) rfl rfl ?_); intro m hm; try dsimp only at hm) | ((first | refine callK_pure TT E (svalid_ok _ _ _ _ (by first | assumption | omega | (refine (?_ : (0 : Int) ≤ _ → _) ?_ <;> first | assumption | omega) | (simp; done) | (simp; omega))) rfl rfl ?_ | refine callKD_pure TT _ _ (svalid_ok _ _ _ _ (by first | assumption | omega | (refine (?_ : (0 : Int) ≤ _ → _) ?_ <;> first | assumption | omega) | (simp; done) | (simp; omega))) rfl rfl ?_); intro m hm; try dsimp only at hm)) <;> simp only [go_sem, ↓reduceIte, Int.reduceBEq, Int.reduceBNe, Nat.reduceEqDiff, Nat.reduceAdd, Nat.reduceMul, Nat.reduceSub, Nat.reduceLT, Nat.reduceBEq, Nat.reduceLeDiff, reduceCtorEq, Int.reduceToNat, Int.reduceNeg, Int.reduceEq, Int.reduceLE, Int.reduceLT, hb])))
    refine ret_givesE TT (by simp only [go_sem, ↓reduceIte, Nat.reduceEqDiff, Nat.reduceAdd, Nat.reduceLT, Nat.reduceLeDiff, reduceCtorEq, Try.results7]; rfl) rfl ?_; simp [resV, exprA, pushN, h1, AV.erR, AV.er, DV.er, erL, erLL]
end Go.Proofs.Ytdbakncnhmphpaa
