/- Walks of functions of the cut by the abstract logic, and what they compute. Filled by a program of mine from a template. -/
import Derived.Test.YtdbakncnhmphpaaM1
namespace Go.Proofs.Ytdbakncnhmphpaa
open Go Go.AL
set_option linter.unusedSimpArgs false
set_option linter.unusedVariables false
def toElO (e : Expr) : Prop := smExpr e → AC Try.prog 9 [.agg [.int .i64 e.kind, .int .i64 e.number, .str e.name, .sl 4 (e.parts.map encE) .no]] [] (OwnR (.agg [.int .i64 e.kind, .int .i64 e.number, .str e.name, .sl 4 (e.parts.map encE) .no]))
theorem toExprSO_of (l : List Expr) (hel : ∀ e ∈ l, toElO e) (Hs : smL smExpr l) : AC Try.prog 29 [LE l] [] (OwnR (LE l)) := by
  refine ac_of_body TT Try.call29 Try.func29 rfl (by simp [Try.ntmps29]) (by kernel_rfl) fun E hk => ?_
  have hs1 : l.length ≤ 1048576 := Hs.1
  have hlim : l.length * 56 ≤ 281474976710656 := by omega
  (repeat' (first | with_reducible (first | refine awp_seq ?_ | refine awp_block ?_ | refine awp_skip ?_ | refine awp_exit ?_ | refine awp_ret ?_ | refine athen_normal ?_ | refine athen_ret ?_ | refine athen_exit ?_ | refine ablock_normal ?_ | refine ablock_ret ?_ | refine ablock_here ?_ | refine ablock_far rfl ?_ | (refine hK _ ?_; clear K hK) | refine awp_cond_t rfl ?_ | refine awp_cond_f rfl ?_ | intro hfact) | (with_reducible refine And.intro ?_ ?_; focus (first | assumption | omega | (simp; done) | ((repeat' apply And.intro) <;> first | assumption | omega) | ((repeat' split) <;> omega))) | ((first | with_reducible (first | ((refine awp_seqr TT ?_); intro K hK) | ((refine awp_region TT ?_); intro K hK) | ((refine awp_seqrF TT [] MX (by kernel_rfl) (by kernel_rfl) ?_); intro K hK) | ((refine awp_regionF TT [] MX (by kernel_rfl) (by kernel_rfl) ?_); intro K hK)) | (with_reducible (first | refine guard_split_t TT E (fun hb => ?_) (fun hb => ?_) | refine guard_split_f TT E (fun hb => ?_) (fun hb => ?_) | refine guardD_split_t TT _ _ (fun hb => ?_) (fun hb => ?_) | refine guardD_split_f TT _ _ (fun hb => ?_) (fun hb => ?_)) <;> try simp only [hb])) <;> simp only [go_sem, ↓reduceIte, Int.reduceBEq, Int.reduceBNe, Nat.reduceEqDiff, Nat.reduceAdd, Nat.reduceMul, Nat.reduceSub, Nat.reduceLT, Nat.reduceBEq, Nat.reduceLeDiff, reduceCtorEq, Int.reduceToNat, Int.reduceNeg, Int.reduceEq, Int.reduceLE, Int.reduceLT, hlim])))
  refine awp_zip (l) (List.length (l)) 0 [] [0, 3] (fun k st => [(4, I k)]) (fun obs k st => [.cells (fillA [.int .i64 0, .int .i64 0, .str [], .sl 4 [] .full] st.1 l.length)]) (fun k st => st.2) (fun k rest st nt => (erLL st.1 = (l.take k).map encE ∧ ownLL st.1 st.2 ∧ (∀ t ∈ st.2, E.nt0 ≤ t ∧ t < nt)) ∧ (∀ y ∈ st.1, y.length = 4) ∧ st.1.length = k ∧ E.nt0 ≤ nt) ((([] : List (List DV)), ([] : List Nat))) (by first | rfl | (simp; done) | (simp; omega)) (by first | rfl | (simp only [go_sem, ↓reduceIte, Nat.reduceEqDiff, Nat.reduceAdd, Nat.reduceLT, Nat.reduceLeDiff, reduceCtorEq]; done) | (simp only [go_sem, ↓reduceIte, Nat.reduceEqDiff, Nat.reduceAdd, Nat.reduceLT, Nat.reduceLeDiff, reduceCtorEq]; simp; done)) (by simp only [go_sem, ↓reduceIte, Nat.reduceEqDiff, Nat.reduceAdd, Nat.reduceLT, Nat.reduceLeDiff, reduceCtorEq]; rfl) (by first | rfl | (simp only [go_sem, ↓reduceIte, Nat.reduceEqDiff, Nat.reduceAdd, Nat.reduceLT, Nat.reduceLeDiff, reduceCtorEq]; rfl)) (⟨⟨by simp [erLL], by simp [ownLL], by simp⟩, by simp, rfl, Nat.le_refl _⟩) (by unfold ASubW; simp only [go_sem, ↓reduceIte, Nat.reduceEqDiff, Nat.reduceAdd, Nat.reduceLT, Nat.reduceLeDiff, reduceCtorEq, hk]; try simp [fillA_nil]) ?_ ?_
  · rintro ⟨xs, ts⟩ nt hmax ⟨⟨h1, h2, h3⟩, h4, h5, h6⟩
    dsimp only at h1 h2 h3 h4 h5
    rw [List.take_length] at h1
    refine awp_freezeT 3 [0, 4] [] rfl rfl rfl (fillA_len (z := [.int .i64 0, .int .i64 0, .str [], .sl 4 [] .full]) (n := l.length) h4 (Nat.le_of_eq h5)) rfl (by simp [hk]) rfl ?_
    rw [show chunk 4 l.length (fillA [.int .i64 0, .int .i64 0, .str [], .sl 4 [] .full] xs l.length) = xs from fillA_full (z := [.int .i64 0, .int .i64 0, .str [], .sl 4 [] .full]) h4 h5]
    (repeat' (first | with_reducible (first | refine awp_seq ?_ | refine awp_block ?_ | refine awp_skip ?_ | refine awp_exit ?_ | refine awp_ret ?_ | refine athen_normal ?_ | refine athen_ret ?_ | refine athen_exit ?_ | refine ablock_normal ?_ | refine ablock_ret ?_ | refine ablock_here ?_ | refine ablock_far rfl ?_ | (refine hK _ ?_; clear K hK) | refine awp_cond_t rfl ?_ | refine awp_cond_f rfl ?_ | intro hfact) | (with_reducible refine And.intro ?_ ?_; focus (first | assumption | omega | (simp; done) | ((repeat' apply And.intro) <;> first | assumption | omega) | ((repeat' split) <;> omega))) | ((first | with_reducible (first | ((refine awp_seqr TT ?_); intro K hK) | ((refine awp_region TT ?_); intro K hK) | ((refine awp_seqrF TT [] MX (by kernel_rfl) (by kernel_rfl) ?_); intro K hK) | ((refine awp_regionF TT [] MX (by kernel_rfl) (by kernel_rfl) ?_); intro K hK)) | (with_reducible (first | refine guard_split_t TT E (fun hb => ?_) (fun hb => ?_) | refine guard_split_f TT E (fun hb => ?_) (fun hb => ?_) | refine guardD_split_t TT _ _ (fun hb => ?_) (fun hb => ?_) | refine guardD_split_f TT _ _ (fun hb => ?_) (fun hb => ?_)) <;> try simp only [hb])) <;> simp only [go_sem, ↓reduceIte, Int.reduceBEq, Int.reduceBNe, Nat.reduceEqDiff, Nat.reduceAdd, Nat.reduceMul, Nat.reduceSub, Nat.reduceLT, Nat.reduceBEq, Nat.reduceLeDiff, reduceCtorEq, Int.reduceToNat, Int.reduceNeg, Int.reduceEq, Int.reduceLE, Int.reduceLT])))
    refine ret_R TT (m := 0) (toks := nt :: ts) (by simp only [go_sem, ↓reduceIte, Nat.reduceEqDiff, Nat.reduceAdd, Nat.reduceLT, Nat.reduceLeDiff, reduceCtorEq, Try.results29]; rfl) (by simp) (fun t h => h) rfl ⟨rfl, ?_, ?_, ?_, ?_⟩
    · exact ownD_tok (sz := 4) (fun hin => by have := (h3 _ hin).2; omega) h2
    · intro x hx; simp at hx; rcases hx with rfl | hx
      · exact ⟨h6, by dsimp only; omega⟩
      · have := h3 x hx; exact ⟨this.1, by dsimp only; omega⟩
    · simp [resV, AV.erR, AV.er, DV.er, h1]
    · dsimp only; omega
  · rintro k x rest ⟨xs, ts⟩ nt hA ⟨⟨h1, h2, h3⟩, h4, h5, h6⟩
    dsimp only at h1 h2 h3 h4 h5
    have hsx := Hs.2 x hA.mem
    (repeat' (first | with_reducible (first | refine awp_seq ?_ | refine awp_block ?_ | refine awp_skip ?_ | refine awp_exit ?_ | refine awp_ret ?_ | refine athen_normal ?_ | refine athen_ret ?_ | refine athen_exit ?_ | refine ablock_normal ?_ | refine ablock_ret ?_ | refine ablock_here ?_ | refine ablock_far rfl ?_ | (refine hK _ ?_; clear K hK) | refine awp_cond_t rfl ?_ | refine awp_cond_f rfl ?_ | intro hfact) | (with_reducible refine And.intro ?_ ?_; focus (first | assumption | omega | (simp; done) | ((repeat' apply And.intro) <;> first | assumption | omega) | ((repeat' split) <;> omega))) | ((first | with_reducible (first | ((refine awp_seqr TT ?_); intro K hK) | ((refine awp_region TT ?_); intro K hK) | ((refine awp_seqrF TT [] MX (by kernel_rfl) (by kernel_rfl) ?_); intro K hK) | ((refine awp_regionF TT [] MX (by kernel_rfl) (by kernel_rfl) ?_); intro K hK)) | (with_reducible (first | refine guard_split_t TT E (fun hb => ?_) (fun hb => ?_) | refine guard_split_f TT E (fun hb => ?_) (fun hb => ?_) | refine guardD_split_t TT _ _ (fun hb => ?_) (fun hb => ?_) | refine guardD_split_f TT _ _ (fun hb => ?_) (fun hb => ?_)) <;> try simp only [hb])) <;> simp only [go_sem, ↓reduceIte, Int.reduceBEq, Int.reduceBNe, Nat.reduceEqDiff, Nat.reduceAdd, Nat.reduceMul, Nat.reduceSub, Nat.reduceLT, Nat.reduceBEq, Nat.reduceLeDiff, reduceCtorEq, Int.reduceToNat, Int.reduceNeg, Int.reduceEq, Int.reduceLE, Int.reduceLT, hA.d, hA.w, hA.lt, hA.g, encE_eq])))
    refine callK_ac TT E [] (hel x hA.mem hsx) rfl rfl rfl (by decide) ?_
    rintro r os t1 m1 ⟨rfl, hO, hT1, hE, hm1⟩
    obtain ⟨cs, rfl, hcs, hO1, hlen⟩ := own_agg hO hE
    dsimp only at hT1 hm1
    have hl : cs.length = 4 := hlen
    have hkl := hA.lt
    have g1 : k * 4 + 4 ≤ (fillA [.int .i64 0, .int .i64 0, .str [], .sl 4 [] .full] xs l.length).length := by rw [fillA_len (z := [.int .i64 0, .int .i64 0, .str [], .sl 4 [] .full]) h4 (by omega)]; simp only [List.length_cons, List.length_nil]; omega
    have g2 : layL (fillA [.int .i64 0, .int .i64 0, .str [], .sl 4 [] .full] xs l.length) (k * 4) cs = fillA [.int .i64 0, .int .i64 0, .str [], .sl 4 [] .full] (xs ++ [cs]) l.length := by
      have := fillA_set (z := [.int .i64 0, .int .i64 0, .str [], .sl 4 [] .full]) (y := cs) (n := l.length) h4 hl (by omega)
      rw [h5] at this
      exact this
    simp only [go_sem, ↓reduceIte, Nat.reduceEqDiff, Nat.reduceAdd, Nat.reduceLT, Nat.reduceLeDiff, reduceCtorEq]
    (repeat' (first | with_reducible (first | refine awp_seq ?_ | refine awp_block ?_ | refine awp_skip ?_ | refine awp_exit ?_ | refine awp_ret ?_ | refine athen_normal ?_ | refine athen_ret ?_ | refine athen_exit ?_ | refine ablock_normal ?_ | refine ablock_ret ?_ | refine ablock_here ?_ | refine ablock_far rfl ?_ | (refine hK _ ?_; clear K hK) | refine awp_cond_t rfl ?_ | refine awp_cond_f rfl ?_ | intro hfact) | (with_reducible refine And.intro ?_ ?_; focus (first | assumption | omega | (simp; done) | ((repeat' apply And.intro) <;> first | assumption | omega) | ((repeat' split) <;> omega))) | ((first | with_reducible (first | ((refine awp_seqr TT ?_); intro K hK) | ((refine awp_region TT ?_); intro K hK) | ((refine awp_seqrF TT [] MX (by kernel_rfl) (by kernel_rfl) ?_); intro K hK) | ((refine awp_regionF TT [] MX (by kernel_rfl) (by kernel_rfl) ?_); intro K hK)) | (with_reducible (first | refine guard_split_t TT E (fun hb => ?_) (fun hb => ?_) | refine guard_split_f TT E (fun hb => ?_) (fun hb => ?_) | refine guardD_split_t TT _ _ (fun hb => ?_) (fun hb => ?_) | refine guardD_split_f TT _ _ (fun hb => ?_) (fun hb => ?_)) <;> try simp only [hb])) <;> simp only [go_sem, ↓reduceIte, Int.reduceBEq, Int.reduceBNe, Nat.reduceEqDiff, Nat.reduceAdd, Nat.reduceMul, Nat.reduceSub, Nat.reduceLT, Nat.reduceBEq, Nat.reduceLeDiff, reduceCtorEq, Int.reduceToNat, Int.reduceNeg, Int.reduceEq, Int.reduceLE, Int.reduceLT, hl, g1, g2, hA.lt, hA.w])))
    refine ⟨(xs ++ [cs], ts ++ t1), ⟨⟨?_, ?_, ?_⟩, ?_, ?_, ?_⟩, ?_⟩
    · rw [erLL_append, hA.snoc, List.map_append, h1]; simp [erLL, hcs, encE_eq]
    · exact ownLL_snoc h2 hO1 (disj_lt (fun t ht => (h3 t ht).2) (fun t ht => (hT1 t ht).1))
    · intro t ht; rcases List.mem_append.1 ht with h | h
      · have := h3 t h; exact ⟨this.1, by dsimp only; omega⟩
      · have := hT1 t h; exact ⟨by omega, this.2⟩
    · intro y hy; rcases List.mem_append.1 hy with h | h
      · exact h4 y h
      · simp at h; subst h; exact hl
    · simp [h5]
    · dsimp only; omega
    · unfold ASubW; simp only [go_sem, ↓reduceIte, Nat.reduceEqDiff, Nat.reduceAdd, Nat.reduceLT, Nat.reduceLeDiff, reduceCtorEq, hk, g2]; (try simp); (try (intro t ht; rcases ht with ht | ht <;> simp [ht]))
theorem toExprO_all : ∀ e, toElO e := by
  intro e
  induction e using Expr.ind with
  | h k n nm ps ih =>
  intro hsm
  have hsm' := (smExpr_mk hsm).2
  dsimp only [Expr.kind, Expr.number, Expr.name, Expr.parts]
  refine ac_of_body TT Try.call9 Try.func9 rfl (by simp [Try.ntmps9]) (by kernel_rfl) fun E hk => ?_
  (repeat' (first | with_reducible (first | refine awp_seq ?_ | refine awp_block ?_ | refine awp_skip ?_ | refine awp_exit ?_ | refine awp_ret ?_ | refine athen_normal ?_ | refine athen_ret ?_ | refine athen_exit ?_ | refine ablock_normal ?_ | refine ablock_ret ?_ | refine ablock_here ?_ | refine ablock_far rfl ?_ | (refine hK _ ?_; clear K hK) | refine awp_cond_t rfl ?_ | refine awp_cond_f rfl ?_ | intro hfact) | (with_reducible refine And.intro ?_ ?_; focus (first | assumption | omega | (simp; done) | ((repeat' apply And.intro) <;> first | assumption | omega) | ((repeat' split) <;> omega))) | ((first | with_reducible (first | ((refine awp_seqr TT ?_); intro K hK) | ((refine awp_region TT ?_); intro K hK) | ((refine awp_seqrF TT [] MX (by kernel_rfl) (by kernel_rfl) ?_); intro K hK) | ((refine awp_regionF TT [] MX (by kernel_rfl) (by kernel_rfl) ?_); intro K hK)) | (with_reducible (first | refine guard_split_t TT E (fun hb => ?_) (fun hb => ?_) | refine guard_split_f TT E (fun hb => ?_) (fun hb => ?_) | refine guardD_split_t TT _ _ (fun hb => ?_) (fun hb => ?_) | refine guardD_split_f TT _ _ (fun hb => ?_) (fun hb => ?_)) <;> try simp only [hb])) <;> simp only [go_sem, ↓reduceIte, Int.reduceBEq, Int.reduceBNe, Nat.reduceEqDiff, Nat.reduceAdd, Nat.reduceMul, Nat.reduceSub, Nat.reduceLT, Nat.reduceBEq, Nat.reduceLeDiff, reduceCtorEq, Int.reduceToNat, Int.reduceNeg, Int.reduceEq, Int.reduceLE, Int.reduceLT])))
  refine callK_ac TT E [] (toExprSO_of ps ih hsm') rfl rfl rfl (by decide) ?_
  rintro r os t0 m0 ⟨rfl, hO, hT0, hE, hm0⟩
  obtain ⟨D0, rfl, hD0, hO0⟩ := own_d hO hE
  dsimp only at hT0 hm0
  simp only [go_sem, ↓reduceIte, Nat.reduceEqDiff, Nat.reduceAdd, Nat.reduceLT, Nat.reduceLeDiff, reduceCtorEq]
  (repeat' (first | with_reducible (first | refine awp_seq ?_ | refine awp_block ?_ | refine awp_skip ?_ | refine awp_exit ?_ | refine awp_ret ?_ | refine athen_normal ?_ | refine athen_ret ?_ | refine athen_exit ?_ | refine ablock_normal ?_ | refine ablock_ret ?_ | refine ablock_here ?_ | refine ablock_far rfl ?_ | (refine hK _ ?_; clear K hK) | refine awp_cond_t rfl ?_ | refine awp_cond_f rfl ?_ | intro hfact) | (with_reducible refine And.intro ?_ ?_; focus (first | assumption | omega | (simp; done) | ((repeat' apply And.intro) <;> first | assumption | omega) | ((repeat' split) <;> omega))) | ((first | with_reducible (first | ((refine awp_seqr TT ?_); intro K hK) | ((refine awp_region TT ?_); intro K hK) | ((refine awp_seqrF TT [] MX (by kernel_rfl) (by kernel_rfl) ?_); intro K hK) | ((refine awp_regionF TT [] MX (by kernel_rfl) (by kernel_rfl) ?_); intro K hK)) | (with_reducible (first | refine guard_split_t TT E (fun hb => ?_) (fun hb => ?_) | refine guard_split_f TT E (fun hb => ?_) (fun hb => ?_) | refine guardD_split_t TT _ _ (fun hb => ?_) (fun hb => ?_) | refine guardD_split_f TT _ _ (fun hb => ?_) (fun hb => ?_)) <;> try simp only [hb])) <;> simp only [go_sem, ↓reduceIte, Int.reduceBEq, Int.reduceBNe, Nat.reduceEqDiff, Nat.reduceAdd, Nat.reduceMul, Nat.reduceSub, Nat.reduceLT, Nat.reduceBEq, Nat.reduceLeDiff, reduceCtorEq, Int.reduceToNat, Int.reduceNeg, Int.reduceEq, Int.reduceLE, Int.reduceLT, hD0])))
  refine ret_R TT (m := 0) (toks := t0) (by simp only [go_sem, ↓reduceIte, Nat.reduceEqDiff, Nat.reduceAdd, Nat.reduceLT, Nat.reduceLeDiff, reduceCtorEq, Try.results9]; rfl) (by simp) (by intro t ht; simp at ht ⊢; exact ht) rfl ⟨rfl, ?_, ?_, ?_, ?_⟩
  · exact ownL_skip rfl (ownL_skip rfl (ownL_skip rfl (ownL_one hO0)))
  · intro x hx; have := hT0 x hx; exact ⟨this.1, by dsimp only; omega⟩
  · simp [resV, AV.erR, AV.er, DV.er, erL, hD0]
  · dsimp only; omega
end Go.Proofs.Ytdbakncnhmphpaa
