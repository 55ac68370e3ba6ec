/- Walks of functions of the cut by the abstract logic, and what they compute. Filled by a program of mine from a template. -/
import Derived.Test.YtdbakncnhmphpaaYD
import Derived.Test.YtdbakncnhmphpaaY9
namespace Go.Proofs.Ytdbakncnhmphpaa
open Go Go.AL
set_option linter.unusedSimpArgs false
set_option linter.unusedVariables false
/-! ### The law FnPushNot -/
theorem pushN_some {a b : List Kinded} {e q : Expr} (h : pushN a b e = some q) : kindOfB a b e = 1 ∧ validE q = true ∧ q = pushE e false := by
  unfold pushN at h
  split at h
  · rename_i hc
    cases h
    exact ⟨hc.1, hc.2, rfl⟩
  · cases h
theorem kindOf_1 {a b : List Kinded} {e : Expr} (h : kindOfB a b e = 1) : schemaB a b = true ∧ validE e = true ∧ kindE a b e = 1 := by
  unfold kindOfB at h
  split at h
  · rename_i hc
    simp only [Bool.and_eq_true] at hc
    exact ⟨hc.1, hc.2, h⟩
  · cases h
theorem pushN_again {a b : List Kinded} {e q : Expr} (h : pushN a b e = some q) : pushN a b q = some q := by
  obtain ⟨h1, h2, rfl⟩ := pushN_some h
  obtain ⟨h3, h4, h5⟩ := kindOf_1 h1
  have hg := valid_good h4
  have hk := push_kind e hg h5 false
  have hi := push_idem e hg h5 false
  unfold pushN kindOfB
  rw [h3, h2, hk, hi]
  simp [h2]
theorem pushed_push (e : Expr) {a b : List Kinded} : goodE e = true → kindE a b e = 1 → ∀ t, pushedB (pushE e t) = true := by
  induction e using Expr.ind with
  | h k n nm ps ih =>
    intro hg hk t
    rcases push_cases hg hk with ⟨rfl, x, rfl, hx1, hx2⟩ | ⟨h14, x, y, rfl, ⟨hx1, hx2⟩, hy1, hy2⟩ | ho
    · rw [push_13]; exact ih x (by simp) hx1 hx2 _
    · have ix := ih x (by simp) hx1 hx2 t
      have iy := ih y (by simp) hy1 hy2 t
      rcases h14 with rfl | rfl
      · rw [push_14, pushedB, ix, iy]; simp
      · rw [push_15, pushedB, ix, iy]; simp
    · rw [push_o ho]
      cases t
      · rw [if_neg (by simp)]
        obtain ⟨h1, h2, h3⟩ := ho
        unfold pushedB
        split <;> simp_all
      · rw [if_pos rfl, pushedB]; simp [Expr.kind, ho]
theorem push_alike {a b : List Kinded} {w : List Thing} {r : Request} {e q : Expr} (h : pushN a b e = some q) (hc : confsB a b w r = true) : alikeB w r e q = true := by
  obtain ⟨h1, h2, rfl⟩ := pushN_some h
  obtain ⟨h3, h4, h5⟩ := kindOf_1 h1
  simp only [confsB, Bool.and_eq_true] at hc
  have hr := reqOK_of hc.1.1.2
  have hs := push_sem hr hc.2 hc.1.2 e (valid_good h4) h5 false
  have ho := (evE_ok hr e (valid_good h4)).2.2
  unfold alikeB evalB
  rw [hr.hw, h4, h2, hc.1.1.2]
  simp only [Bool.and_self, if_true, hs, turnV, sameV]
  simp [ho]
theorem dec_self {e : Expr} : dec (e = e) = true := dec_t rfl
theorem pushN_g (a b : List Kinded) (k n : Int) (nm : List UInt8) (ps : List Expr) : Gives Try.prog 10 [.agg [.sl 2 (a.map encK) .no, .sl 2 (b.map encK) .no], .agg [.int .i64 k, .int .i64 n, .str nm, .sl 4 (ps.map encE) .no]] (exprA (pushN a b (.mk k n nm ps))) := AC.erM (AC.noTok (pushNO a b k n nm ps)) fun _ _ _ _ _ ⟨ht, _, ho, _, _, he, _⟩ => ⟨he, ho, ht⟩
set_option maxHeartbeats 4000000 in
theorem law_push (a : List Int) (ha : ∀ b ∈ a, 0 ≤ b ∧ b < 256) (c : List Int) (hc : ∀ b ∈ c, 0 ≤ b ∧ b < 256) : Gives Try.prog 4 [.d (.sl 1 (encB a) .no), .d (.sl 1 (encB c) .no)] (B true) := by
  refine ac_of_body TT Try.call4 Try.func4 rfl (by simp [Try.ntmps4]) (by kernel_rfl) fun E hk => ?_
  (repeat' (first | with_reducible (first | refine awp_seq ?_ | refine awp_block ?_ | refine awp_skip ?_ | refine awp_exit ?_ | refine awp_ret ?_ | refine athen_normal ?_ | refine athen_ret ?_ | refine athen_exit ?_ | refine ablock_normal ?_ | refine ablock_ret ?_ | refine ablock_here ?_ | refine ablock_far rfl ?_ | (refine hK _ ?_; clear K hK) | refine awp_cond_t rfl ?_ | refine awp_cond_f rfl ?_ | intro hfact) | (with_reducible refine And.intro ?_ ?_; focus (first | assumption | omega | (simp; done) | ((repeat' apply And.intro) <;> first | assumption | omega) | ((repeat' split) <;> omega))) | ((first | with_reducible (first | ((refine awp_seqr TT ?_); intro K hK) | ((refine awp_region TT ?_); intro K hK) | ((refine awp_seqrF TT [] MX (by kernel_rfl) (by kernel_rfl) ?_); intro K hK) | ((refine awp_regionF TT [] MX (by kernel_rfl) (by kernel_rfl) ?_); intro K hK)) | (with_reducible (first | refine guard_split_t TT E (fun hb => ?_) (fun hb => ?_) | refine guard_split_f TT E (fun hb => ?_) (fun hb => ?_) | refine guardD_split_t TT _ _ (fun hb => ?_) (fun hb => ?_) | refine guardD_split_f TT _ _ (fun hb => ?_) (fun hb => ?_)) <;> try simp only [hb]) | (refine callK_pureR TT E (dPush_ok a ha) rfl ?_; rintro r m ⟨sa, sb, ⟨k, n, nm, ps⟩, rfl, hcn⟩ hm; dsimp only [EAx, Expr.kind, Expr.number, Expr.name, Expr.parts])) <;> simp only [go_sem, ↓reduceIte, Int.reduceBEq, Int.reduceBNe, Nat.reduceEqDiff, Nat.reduceAdd, Nat.reduceMul, Nat.reduceSub, Nat.reduceLT, Nat.reduceBEq, Nat.reduceLeDiff, reduceCtorEq, Int.reduceToNat, Int.reduceNeg, Int.reduceEq, Int.reduceLE, Int.reduceLT]) | refine awp_condN rfl (fun hb => ?_) (fun hb => ?_) | refine awp_condP rfl (fun hb => ?_) (fun hb => ?_) | refine awp_cond rfl (fun hb => ?_) (fun hb => ?_)))
  all_goals first | (refine ret_gives TT (by simp only [go_sem, ↓reduceIte, Nat.reduceEqDiff, Nat.reduceAdd, Nat.reduceLT, Nat.reduceLeDiff, reduceCtorEq, Try.results4]; rfl) rfl ?_; rfl) | skip
  have him := pushN_g sa sb k n nm ps
  have hsp := spushN_ok sa sb k n nm ps (by omega)
  cases hq : pushN sa sb (.mk k n nm ps) with
  | none =>
    rw [hq] at him hsp
    have hz := sameE_ok (.mk 0 0 [] []) 0 0 [] []
    rw [dec_self] at hz
    dsimp only [exprA, Expr.kind, Expr.number, Expr.name, Expr.parts, List.map_nil] at him hsp hz
    (repeat' (first | with_reducible (first | refine awp_seq ?_ | refine awp_block ?_ | refine awp_skip ?_ | refine awp_exit ?_ | refine awp_ret ?_ | refine athen_normal ?_ | refine athen_ret ?_ | refine athen_exit ?_ | refine ablock_normal ?_ | refine ablock_ret ?_ | refine ablock_here ?_ | refine ablock_far rfl ?_ | (refine hK _ ?_; clear K hK) | refine awp_cond_t rfl ?_ | refine awp_cond_f rfl ?_ | intro hfact) | (with_reducible refine And.intro ?_ ?_; focus (first | assumption | omega | (simp; done) | ((repeat' apply And.intro) <;> first | assumption | omega) | ((repeat' split) <;> omega))) | ((first | with_reducible (first | ((refine awp_seqr TT ?_); intro K hK) | ((refine awp_region TT ?_); intro K hK) | ((refine awp_seqrF TT [] MX (by kernel_rfl) (by kernel_rfl) ?_); intro K hK) | ((refine awp_regionF TT [] MX (by kernel_rfl) (by kernel_rfl) ?_); intro K hK)) | (with_reducible (first | refine guard_split_t TT E (fun hb => ?_) (fun hb => ?_) | refine guard_split_f TT E (fun hb => ?_) (fun hb => ?_) | refine guardD_split_t TT _ _ (fun hb => ?_) (fun hb => ?_) | refine guardD_split_f TT _ _ (fun hb => ?_) (fun hb => ?_)) <;> try simp only [hb]) | ((first | refine callK_pure TT E (him) rfl rfl ?_ | refine callKD_pure TT _ _ (him) rfl rfl ?_); intro m hm; try dsimp only at hm) | ((first | refine callK_pure TT E (hsp) rfl rfl ?_ | refine callKD_pure TT _ _ (hsp) rfl rfl ?_); intro m hm; try dsimp only at hm) | ((first | refine callK_pure TT E (hz) rfl rfl ?_ | refine callKD_pure TT _ _ (hz) rfl rfl ?_); intro m hm; try dsimp only at hm) | ((first | refine callK_pure TT E (spushN_ok _ _ _ _ _ _ (by first | assumption | omega | (refine (?_ : (0 : Int) ≤ _ → _) ?_ <;> first | assumption | omega) | (simp; done) | (simp; omega))) rfl rfl ?_ | refine callKD_pure TT _ _ (spushN_ok _ _ _ _ _ _ (by first | assumption | omega | (refine (?_ : (0 : Int) ≤ _ → _) ?_ <;> first | assumption | omega) | (simp; done) | (simp; omega))) rfl rfl ?_); intro m hm; try dsimp only at hm) | ((first | refine callK_pure TT E (alive_ok ) rfl rfl ?_ | refine callKD_pure TT _ _ (alive_ok ) rfl rfl ?_); intro m hm; try dsimp only at hm) | ((first | refine callK_pure TT E (conforms_ok _ _ _ _ _ _ _) rfl rfl ?_ | refine callKD_pure TT _ _ (conforms_ok _ _ _ _ _ _ _) rfl rfl ?_); intro m hm; try dsimp only at hm) | ((first | refine callK_pure TT E (alike_ok _ _ _ _ _ _ _ _ _ _ _ _ _) rfl rfl ?_ | refine callKD_pure TT _ _ (alike_ok _ _ _ _ _ _ _ _ _ _ _ _ _) rfl rfl ?_); intro m hm; try dsimp only at hm) | ((first | refine callK_pure TT E (Pushed_ok _ _ _ _) rfl rfl ?_ | refine callKD_pure TT _ _ (Pushed_ok _ _ _ _) rfl rfl ?_); intro m hm; try dsimp only at hm)) <;> simp only [go_sem, ↓reduceIte, Int.reduceBEq, Int.reduceBNe, Nat.reduceEqDiff, Nat.reduceAdd, Nat.reduceMul, Nat.reduceSub, Nat.reduceLT, Nat.reduceBEq, Nat.reduceLeDiff, reduceCtorEq, Int.reduceToNat, Int.reduceNeg, Int.reduceEq, Int.reduceLE, Int.reduceLT]) | refine awp_condN rfl (fun hb => ?_) (fun hb => ?_) | refine awp_condP rfl (fun hb => ?_) (fun hb => ?_) | refine awp_cond rfl (fun hb => ?_) (fun hb => ?_)))
    all_goals (refine ret_gives TT (by simp only [go_sem, ↓reduceIte, Nat.reduceEqDiff, Nat.reduceAdd, Nat.reduceLT, Nat.reduceLeDiff, reduceCtorEq, Try.results4]; rfl) rfl ?_; simp_all [resV])
  | some q =>
    have hag := pushN_again hq
    obtain ⟨h1, h2, h6⟩ := pushN_some hq
    obtain ⟨h3, h4, h5⟩ := kindOf_1 h1
    have hpu : pushedB q = true := by rw [h6]; exact pushed_push _ (valid_good h4) h5 false
    have hal := fun (w : List Thing) (r : Request) (h : confsB sa sb w r = true) => push_alike hq h
    rw [hq] at him hsp
    clear hq h6
    obtain ⟨qk, qn, qm, qp⟩ := q
    have hia := pushN_g sa sb qk qn qm qp
    rw [hag] at hia
    have hz := sameE_ok (.mk qk qn qm qp) qk qn qm qp
    rw [dec_self] at hz
    dsimp only [exprA, EAx, Expr.kind, Expr.number, Expr.name, Expr.parts] at him hsp hz hia
    (repeat' (first | with_reducible (first | refine awp_seq ?_ | refine awp_block ?_ | refine awp_skip ?_ | refine awp_exit ?_ | refine awp_ret ?_ | refine athen_normal ?_ | refine athen_ret ?_ | refine athen_exit ?_ | refine ablock_normal ?_ | refine ablock_ret ?_ | refine ablock_here ?_ | refine ablock_far rfl ?_ | (refine hK _ ?_; clear K hK) | refine awp_cond_t rfl ?_ | refine awp_cond_f rfl ?_ | intro hfact) | (with_reducible refine And.intro ?_ ?_; focus (first | assumption | omega | (simp; done) | ((repeat' apply And.intro) <;> first | assumption | omega) | ((repeat' split) <;> omega))) | ((first | with_reducible (first | ((refine awp_seqr TT ?_); intro K hK) | ((refine awp_region TT ?_); intro K hK) | ((refine awp_seqrF TT [] MX (by kernel_rfl) (by kernel_rfl) ?_); intro K hK) | ((refine awp_regionF TT [] MX (by kernel_rfl) (by kernel_rfl) ?_); intro K hK)) | (with_reducible (first | refine guard_split_t TT E (fun hb => ?_) (fun hb => ?_) | refine guard_split_f TT E (fun hb => ?_) (fun hb => ?_) | refine guardD_split_t TT _ _ (fun hb => ?_) (fun hb => ?_) | refine guardD_split_f TT _ _ (fun hb => ?_) (fun hb => ?_)) <;> try simp only [hb]) | ((first | refine callK_pure TT E (him) rfl rfl ?_ | refine callKD_pure TT _ _ (him) rfl rfl ?_); intro m hm; try dsimp only at hm) | ((first | refine callK_pure TT E (hsp) rfl rfl ?_ | refine callKD_pure TT _ _ (hsp) rfl rfl ?_); intro m hm; try dsimp only at hm) | ((first | refine callK_pure TT E (hia) rfl rfl ?_ | refine callKD_pure TT _ _ (hia) rfl rfl ?_); intro m hm; try dsimp only at hm) | ((first | refine callK_pure TT E (hz) rfl rfl ?_ | refine callKD_pure TT _ _ (hz) rfl rfl ?_); intro m hm; try dsimp only at hm) | (refine callK_pureR TT E (dEval_ok c hc) rfl ?_; rintro r m ⟨w, ⟨who, act, what, fs⟩, ⟨ek, en, em, ep⟩, rfl⟩ hm; dsimp only [EAx, Expr.kind, Expr.number, Expr.name, Expr.parts]) | ((first | refine callK_pure TT E (spushN_ok _ _ _ _ _ _ (by first | assumption | omega | (refine (?_ : (0 : Int) ≤ _ → _) ?_ <;> first | assumption | omega) | (simp; done) | (simp; omega))) rfl rfl ?_ | refine callKD_pure TT _ _ (spushN_ok _ _ _ _ _ _ (by first | assumption | omega | (refine (?_ : (0 : Int) ≤ _ → _) ?_ <;> first | assumption | omega) | (simp; done) | (simp; omega))) rfl rfl ?_); intro m hm; try dsimp only at hm) | ((first | refine callK_pure TT E (alive_ok ) rfl rfl ?_ | refine callKD_pure TT _ _ (alive_ok ) rfl rfl ?_); intro m hm; try dsimp only at hm) | ((first | refine callK_pure TT E (conforms_ok _ _ _ _ _ _ _) rfl rfl ?_ | refine callKD_pure TT _ _ (conforms_ok _ _ _ _ _ _ _) rfl rfl ?_); intro m hm; try dsimp only at hm) | ((first | refine callK_pure TT E (alike_ok _ _ _ _ _ _ _ _ _ _ _ _ _) rfl rfl ?_ | refine callKD_pure TT _ _ (alike_ok _ _ _ _ _ _ _ _ _ _ _ _ _) rfl rfl ?_); intro m hm; try dsimp only at hm) | ((first | refine callK_pure TT E (Pushed_ok _ _ _ _) rfl rfl ?_ | refine callKD_pure TT _ _ (Pushed_ok _ _ _ _) rfl rfl ?_); intro m hm; try dsimp only at hm)) <;> simp only [go_sem, ↓reduceIte, Int.reduceBEq, Int.reduceBNe, Nat.reduceEqDiff, Nat.reduceAdd, Nat.reduceMul, Nat.reduceSub, Nat.reduceLT, Nat.reduceBEq, Nat.reduceLeDiff, reduceCtorEq, Int.reduceToNat, Int.reduceNeg, Int.reduceEq, Int.reduceLE, Int.reduceLT, h2, hpu]) | refine awp_condN rfl (fun hb => ?_) (fun hb => ?_) | refine awp_condP rfl (fun hb => ?_) (fun hb => ?_) | refine awp_cond rfl (fun hb => ?_) (fun hb => ?_)))
    all_goals first
      | (refine ret_gives TT (by simp only [go_sem, ↓reduceIte, Nat.reduceEqDiff, Nat.reduceAdd, Nat.reduceLT, Nat.reduceLeDiff, reduceCtorEq, Try.results4]; rfl) rfl ?_; rfl)
      | (exfalso; have h9 := hal _ _ (by assumption); simp_all; done)
end Go.Proofs.Ytdbakncnhmphpaa
