/- Walks of functions of the cut by the abstract logic, and what they compute. Filled by a program of mine from a template. -/
import Derived.Test.YtfgalmgldidcmaaGreatR8
namespace Go.Proofs.YtfgalmgldidcmaaGreat
open Go Go.AL Go.RowKit
set_option linter.unusedSimpArgs false
set_option linter.unusedVariables false
/-! ### The names that an expression asks for -/
theorem sort0 : Gives Tryz.prog 53 [.d (.sl 1 [] .no)] (.tup []) := by
  refine ac_of_calls (R := fun v => v = _) Tryz.call53 fun w T J τ ρ vs hG hI hA => ?_
  obtain ⟨x, rfl, hx⟩ := reps_one hA
  cases hx with
  | d _ _ h =>
  cases h with
  | sl _ _ _ adr cap vals hsz hcap hmax hnil hadr hIc hrep hown =>
  refine Calls.mono (Tryz.slices_Sort_string_none adr cap w) fun e w' ⟨h1, h2⟩ => ?_
  subst h2
  exact ⟨_, .tup [], J, h1, rfl, Below.refl _ _, NewI.old hI (Below.refl _ _), .tup [] [] rfl fun i v x hv hx => by simp at hv⟩
theorem comp0 : Gives Tryz.prog 54 [.d (.sl 1 [] .no)] (.d (.sl 1 [] .no)) := by
  refine ac_of_calls (R := fun v => v = _) Tryz.call54 fun w T J τ ρ vs hG hI hA => ?_
  obtain ⟨x, rfl, hx⟩ := reps_one hA
  have hx0 := hx
  cases hx with
  | d _ _ h =>
  cases h with
  | sl _ _ _ adr cap vals hsz hcap hmax hnil hadr hIc hrep hown =>
  refine Calls.mono (Tryz.slices_Compact_string_empty adr cap w) fun e w' ⟨h1, h2⟩ => ?_
  subst h2
  exact ⟨_, _, J, h1, rfl, Below.refl _ _, NewI.old hI (Below.refl _ _), hx0⟩
set_option maxRecDepth 100000 in
theorem asked_ok (e : Expr) (hc : (accE e).length ≤ 1000000) : ACN Tryz.prog 25 [EA e] [] fun _ v o t _ => ∃ (l : List (List UInt8)) (own : Own), v = .d (.sl 1 (l.map encS) own) ∧ o = [] ∧ (∀ x ∈ accE e, x ∈ l) ∧ l.length ≤ (accE e).length := by
  refine acn_of_body TT Tryz.call25 Tryz.func25 rfl (by simp [Tryz.ntmps25]) (by kernel_rfl) fun E hn hk => ?_
  have hea := each_acc e [] .full (.inl ⟨rfl, rfl⟩) (by rw [List.nil_append]; exact hc)
  rw [List.nil_append] at hea
  by_cases hz : accE e = []
  · rw [hz] at hea
    (repeat' (first | with_reducible (first | refine awp_seq ?_ | refine awp_block ?_ | refine awp_skip ?_ | refine awp_exit ?_ | refine awp_ret ?_ | refine athen_normal ?_ | refine athen_ret ?_ | refine athen_exit ?_ | refine ablock_normal ?_ | refine ablock_ret ?_ | refine ablock_here ?_ | refine ablock_far rfl ?_ | (refine hK _ ?_; clear K hK) | refine awp_cond_t rfl ?_ | refine awp_cond_f rfl ?_ | intro hfact) | (with_reducible refine And.intro ?_ ?_; focus (first | assumption | omega | (simp; done) | ((repeat' apply And.intro) <;> first | assumption | omega) | ((repeat' split) <;> omega))) | ((first | with_reducible (first | ((refine awp_seqr TT ?_); intro K hK) | ((refine awp_region TT ?_); intro K hK) | ((refine awp_seqrF TT [] MX (by kernel_rfl) (by kernel_rfl) ?_); intro K hK) | ((refine awp_regionF TT [] MX (by kernel_rfl) (by kernel_rfl) ?_); intro K hK)) | (with_reducible (first | refine guard_split_t TT E (fun hb => ?_) (fun hb => ?_) | refine guard_split_f TT E (fun hb => ?_) (fun hb => ?_) | refine guardD_split_t TT _ _ (fun hb => ?_) (fun hb => ?_) | refine guardD_split_f TT _ _ (fun hb => ?_) (fun hb => ?_)) <;> try simp only [hb]) | (refine callK_acT TT E [1] (tkOf .full) hea trivial (by simp [tkOf]) rfl rfl rfl (by decide) ?_; rintro r os ts m ⟨own, rfl, rfl, h1, h2, h3⟩) | ((first | refine callK_pure TT E (sort0) rfl rfl ?_ | refine callKD_pure TT _ _ (sort0) rfl rfl ?_); intro m hm; try dsimp only at hm) | ((first | refine callK_pure TT E (comp0) rfl rfl ?_ | refine callKD_pure TT _ _ (comp0) rfl rfl ?_); intro m hm; try dsimp only at hm)) <;> simp only [go_sem, ↓reduceIte, Int.reduceBEq, Int.reduceBNe, Nat.reduceEqDiff, Nat.reduceAdd, Nat.reduceMul, Nat.reduceSub, Nat.reduceLT, Nat.reduceBEq, Nat.reduceLeDiff, reduceCtorEq, Int.reduceToNat, Int.reduceNeg, Int.reduceEq, Int.reduceLE, Int.reduceLT])))
    refine ret_R TT (m := 0) (toks := []) (by simp only [go_sem, ↓reduceIte, Nat.reduceEqDiff, Nat.reduceAdd, Nat.reduceLT, Nat.reduceLeDiff, reduceCtorEq, Tryz.results25]; rfl) (by simp) (by simp) rfl ⟨[], .no, ?_, rfl, by rw [hz]; simp, by simp⟩
    simp [resV]
  · (repeat' (first | ((refine awp_seqrN (id := 3) TT 1 ?_; intro K hK; simp only [List.take_succ_cons, List.take_zero]; simp only [go_sem, ↓reduceIte, Nat.reduceEqDiff, Nat.reduceAdd, Nat.reduceLT, Nat.reduceLeDiff, reduceCtorEq])) | with_reducible (first | refine awp_seq ?_ | refine awp_block ?_ | refine awp_skip ?_ | refine awp_exit ?_ | refine awp_ret ?_ | refine athen_normal ?_ | refine athen_ret ?_ | refine athen_exit ?_ | refine ablock_normal ?_ | refine ablock_ret ?_ | refine ablock_here ?_ | refine ablock_far rfl ?_ | (refine hK _ ?_; clear K hK) | refine awp_cond_t rfl ?_ | refine awp_cond_f rfl ?_ | intro hfact) | (with_reducible refine And.intro ?_ ?_; focus (first | assumption | omega | (simp; done) | ((repeat' apply And.intro) <;> first | assumption | omega) | ((repeat' split) <;> omega))) | ((first | with_reducible (first | ((refine awp_seqr TT ?_); intro K hK) | ((refine awp_region TT ?_); intro K hK) | ((refine awp_seqrF TT [] MX (by kernel_rfl) (by kernel_rfl) ?_); intro K hK) | ((refine awp_regionF TT [] MX (by kernel_rfl) (by kernel_rfl) ?_); intro K hK)) | (with_reducible (first | refine guard_split_t TT E (fun hb => ?_) (fun hb => ?_) | refine guard_split_f TT E (fun hb => ?_) (fun hb => ?_) | refine guardD_split_t TT _ _ (fun hb => ?_) (fun hb => ?_) | refine guardD_split_f TT _ _ (fun hb => ?_) (fun hb => ?_)) <;> try simp only [hb]) | (refine callK_acT TT E [1] (tkOf .full) hea trivial (by simp [tkOf]) rfl rfl rfl (by decide) ?_; rintro r os ts m ⟨own, rfl, rfl, h1, h2, h3⟩)) <;> simp only [go_sem, ↓reduceIte, Int.reduceBEq, Int.reduceBNe, Nat.reduceEqDiff, Nat.reduceAdd, Nat.reduceMul, Nat.reduceSub, Nat.reduceLT, Nat.reduceBEq, Nat.reduceLeDiff, reduceCtorEq, Int.reduceToNat, Int.reduceNeg, Int.reduceEq, Int.reduceLE, Int.reduceLT])))
    rcases h2 with ⟨_, h0⟩ | ⟨t0, rfl⟩
    · exact absurd h0 hz
    have hl0 : 0 < (accE e).length := List.length_pos_iff.2 hz
    simp only [List.drop_succ_cons, List.drop_zero]
    refine sem_sortO (o := 1) (t0 := t0) (zs := accE e) [3] sortS hn hk (srtS_len _) (fun x h => srtS_mem.1 h) rfl rfl hl0 (by omega) (by simp [tkOf]) rfl rfl (.inr ⟨8, rfl, by decide⟩) ?_
    refine sem_rvcN TT ?_
    intro K hK
    simp only [go_sem, ↓reduceIte, Nat.reduceEqDiff, Nat.reduceAdd, Nat.reduceLT, Nat.reduceLeDiff, reduceCtorEq]
    (repeat' (first | ((refine awp_seqrN (id := 4) TT 1 ?_; intro K hK; simp only [List.take_succ_cons, List.take_zero]; simp only [go_sem, ↓reduceIte, Nat.reduceEqDiff, Nat.reduceAdd, Nat.reduceLT, Nat.reduceLeDiff, reduceCtorEq])) | with_reducible (first | refine awp_seq ?_ | refine awp_block ?_ | refine awp_skip ?_ | refine awp_exit ?_ | refine awp_ret ?_ | refine athen_normal ?_ | refine athen_ret ?_ | refine athen_exit ?_ | refine ablock_normal ?_ | refine ablock_ret ?_ | refine ablock_here ?_ | refine ablock_far rfl ?_ | (refine hK _ ?_; clear K hK) | refine awp_cond_t rfl ?_ | refine awp_cond_f rfl ?_ | intro hfact) | (with_reducible refine And.intro ?_ ?_; focus (first | assumption | omega | (simp; done) | ((repeat' apply And.intro) <;> first | assumption | omega) | ((repeat' split) <;> omega))) | ((first | with_reducible (first | ((refine awp_seqr TT ?_); intro K hK) | ((refine awp_region TT ?_); intro K hK) | ((refine awp_seqrF TT [] MX (by kernel_rfl) (by kernel_rfl) ?_); intro K hK) | ((refine awp_regionF TT [] MX (by kernel_rfl) (by kernel_rfl) ?_); intro K hK)) | (with_reducible (first | refine guard_split_t TT E (fun hb => ?_) (fun hb => ?_) | refine guard_split_f TT E (fun hb => ?_) (fun hb => ?_) | refine guardD_split_t TT _ _ (fun hb => ?_) (fun hb => ?_) | refine guardD_split_f TT _ _ (fun hb => ?_) (fun hb => ?_)) <;> try simp only [hb])) <;> simp only [go_sem, ↓reduceIte, Int.reduceBEq, Int.reduceBNe, Nat.reduceEqDiff, Nat.reduceAdd, Nat.reduceMul, Nat.reduceSub, Nat.reduceLT, Nat.reduceBEq, Nat.reduceLeDiff, reduceCtorEq, Int.reduceToNat, Int.reduceNeg, Int.reduceEq, Int.reduceLE, Int.reduceLT])))
    simp only [List.drop_succ_cons, List.drop_zero]
    refine sem_compO (t0 := m) (zs := srtS (accE e)) compS hn hk (fun x h => compact_mem h) rfl (by rw [srtS_len]; exact hl0) (by rw [srtS_len]; omega) (by simp) ?_
    refine sem_rvcN TT ?_
    intro K hK
    simp only [go_sem, ↓reduceIte, Nat.reduceEqDiff, Nat.reduceAdd, Nat.reduceLT, Nat.reduceLeDiff, reduceCtorEq]
    (repeat' (first | with_reducible (first | refine awp_seq ?_ | refine awp_block ?_ | refine awp_skip ?_ | refine awp_exit ?_ | refine awp_ret ?_ | refine athen_normal ?_ | refine athen_ret ?_ | refine athen_exit ?_ | refine ablock_normal ?_ | refine ablock_ret ?_ | refine ablock_here ?_ | refine ablock_far rfl ?_ | (refine hK _ ?_; clear K hK) | refine awp_cond_t rfl ?_ | refine awp_cond_f rfl ?_ | intro hfact) | (with_reducible refine And.intro ?_ ?_; focus (first | assumption | omega | (simp; done) | ((repeat' apply And.intro) <;> first | assumption | omega) | ((repeat' split) <;> omega))) | ((first | with_reducible (first | ((refine awp_seqr TT ?_); intro K hK) | ((refine awp_region TT ?_); intro K hK) | ((refine awp_seqrF TT [] MX (by kernel_rfl) (by kernel_rfl) ?_); intro K hK) | ((refine awp_regionF TT [] MX (by kernel_rfl) (by kernel_rfl) ?_); intro K hK)) | (with_reducible (first | refine guard_split_t TT E (fun hb => ?_) (fun hb => ?_) | refine guard_split_f TT E (fun hb => ?_) (fun hb => ?_) | refine guardD_split_t TT _ _ (fun hb => ?_) (fun hb => ?_) | refine guardD_split_f TT _ _ (fun hb => ?_) (fun hb => ?_)) <;> try simp only [hb])) <;> simp only [go_sem, ↓reduceIte, Int.reduceBEq, Int.reduceBNe, Nat.reduceEqDiff, Nat.reduceAdd, Nat.reduceMul, Nat.reduceSub, Nat.reduceLT, Nat.reduceBEq, Nat.reduceLeDiff, reduceCtorEq, Int.reduceToNat, Int.reduceNeg, Int.reduceEq, Int.reduceLE, Int.reduceLT])))
    refine ret_R TT (m := 0) (toks := []) (by simp only [go_sem, ↓reduceIte, Nat.reduceEqDiff, Nat.reduceAdd, Nat.reduceLT, Nat.reduceLeDiff, reduceCtorEq, Tryz.results25]; rfl) (by simp) (by simp) rfl ⟨Lib.compact (srtS (accE e)), .tok (m + 1), rfl, rfl, fun x hx => mem_compact (srtS_mem.2 hx), Nat.le_trans (compact_len _) (by rw [srtS_len]; exact Nat.le_refl _)⟩
def asksR (e : Expr) (v : AV) : Prop := ∃ l : List (List UInt8), v = LS l ∧ l.length ≤ 40 ∧ (validE e = true → ∀ x ∈ accE e, x ∈ l)
theorem er_encS' (l : List (List UInt8)) : erLL (l.map encS) = l.map encS := by
  induction l with
  | nil => rfl
  | cons s l ih => simp [erLL, erL, DV.er, encS, ih]
set_option maxRecDepth 100000 in
theorem asksF_ok (ekind' : Int) (enumber' : Int) (ename' : List UInt8) (eparts' : List Expr) : GivesR Tryz.prog 7 [.agg [.int .i64 ekind', .int .i64 enumber', .str ename', .sl 4 (eparts'.map encE) .no]] (asksR (Expr.mk ekind' enumber' ename' eparts')) := by
  refine AC.erR ?_
  refine ac_of_body TT Tryz.call7 Tryz.func7 rfl (by simp [Tryz.ntmps7]) (by kernel_rfl) fun E hk => ?_
  cases hv : validE (Expr.mk ekind' enumber' ename' eparts')
  · (repeat' (first | (refine awp_nilSlot 2 1 rfl ?_) | with_reducible (first | refine awp_seq ?_ | refine awp_block ?_ | refine awp_skip ?_ | refine awp_exit ?_ | refine awp_ret ?_ | refine athen_normal ?_ | refine athen_ret ?_ | refine athen_exit ?_ | refine ablock_normal ?_ | refine ablock_ret ?_ | refine ablock_here ?_ | refine ablock_far rfl ?_ | (refine hK _ ?_; clear K hK) | refine awp_cond_t rfl ?_ | refine awp_cond_f rfl ?_ | intro hfact) | (with_reducible refine And.intro ?_ ?_; focus (first | assumption | omega | (simp; done) | ((repeat' apply And.intro) <;> first | assumption | omega) | ((repeat' split) <;> omega))) | ((first | with_reducible (first | ((refine awp_seqr TT ?_); intro K hK) | ((refine awp_region TT ?_); intro K hK) | ((refine awp_seqrF TT [] MX (by kernel_rfl) (by kernel_rfl) ?_); intro K hK) | ((refine awp_regionF TT [] MX (by kernel_rfl) (by kernel_rfl) ?_); intro K hK)) | (with_reducible (first | refine guard_split_t TT E (fun hb => ?_) (fun hb => ?_) | refine guard_split_f TT E (fun hb => ?_) (fun hb => ?_) | refine guardD_split_t TT _ _ (fun hb => ?_) (fun hb => ?_) | refine guardD_split_f TT _ _ (fun hb => ?_) (fun hb => ?_)) <;> try simp only [hb]) | ((first | refine callK_pure TT E (valid_ok _ _ _ _) rfl rfl ?_ | refine callKD_pure TT _ _ (valid_ok _ _ _ _) rfl rfl ?_); intro m hm; try dsimp only at hm)) <;> simp only [go_sem, ↓reduceIte, Int.reduceBEq, Int.reduceBNe, Nat.reduceEqDiff, Nat.reduceAdd, Nat.reduceMul, Nat.reduceSub, Nat.reduceLT, Nat.reduceBEq, Nat.reduceLeDiff, reduceCtorEq, Int.reduceToNat, Int.reduceNeg, Int.reduceEq, Int.reduceLE, Int.reduceLT, hv])))
    refine ret_givesRE (R := asksR (Expr.mk ekind' enumber' ename' eparts')) TT (by simp only [go_sem, ↓reduceIte, Nat.reduceEqDiff, Nat.reduceAdd, Nat.reduceLT, Nat.reduceLeDiff, reduceCtorEq, Tryz.results7]; rfl) rfl ?_
    exact ⟨[], by simp [resV, AV.erR, AV.er, DV.er, erLL], by simp, fun h => by rw [hv] at h; cases h⟩
  · have hcn : (accE (Expr.mk ekind' enumber' ename' eparts')).length ≤ 40 := by
      have h1 := accE_len (Expr.mk ekind' enumber' ename' eparts')
      have h2 : cntE (Expr.mk ekind' enumber' ename' eparts') ≤ 40 := by
        unfold validE at hv
        simp only [Bool.and_eq_true, decide_eq_true_eq] at hv
        omega
      omega
    have hak := asked_ok (Expr.mk ekind' enumber' ename' eparts') (by omega)
    (repeat' (first | with_reducible (first | refine awp_seq ?_ | refine awp_block ?_ | refine awp_skip ?_ | refine awp_exit ?_ | refine awp_ret ?_ | refine athen_normal ?_ | refine athen_ret ?_ | refine athen_exit ?_ | refine ablock_normal ?_ | refine ablock_ret ?_ | refine ablock_here ?_ | refine ablock_far rfl ?_ | (refine hK _ ?_; clear K hK) | refine awp_cond_t rfl ?_ | refine awp_cond_f rfl ?_ | intro hfact) | (with_reducible refine And.intro ?_ ?_; focus (first | assumption | omega | (simp; done) | ((repeat' apply And.intro) <;> first | assumption | omega) | ((repeat' split) <;> omega))) | ((first | with_reducible (first | ((refine awp_seqr TT ?_); intro K hK) | ((refine awp_region TT ?_); intro K hK) | ((refine awp_seqrF TT [] MX (by kernel_rfl) (by kernel_rfl) ?_); intro K hK) | ((refine awp_regionF TT [] MX (by kernel_rfl) (by kernel_rfl) ?_); intro K hK)) | (with_reducible (first | refine guard_split_t TT E (fun hb => ?_) (fun hb => ?_) | refine guard_split_f TT E (fun hb => ?_) (fun hb => ?_) | refine guardD_split_t TT _ _ (fun hb => ?_) (fun hb => ?_) | refine guardD_split_f TT _ _ (fun hb => ?_) (fun hb => ?_)) <;> try simp only [hb]) | (refine callK_acN TT E [] hak rfl rfl rfl (by decide) ?_; rintro r os ts m ⟨l, own, rfl, rfl, h1, h2⟩) | ((first | refine callK_pure TT E (valid_ok _ _ _ _) rfl rfl ?_ | refine callKD_pure TT _ _ (valid_ok _ _ _ _) rfl rfl ?_); intro m hm; try dsimp only at hm)) <;> simp only [go_sem, ↓reduceIte, Int.reduceBEq, Int.reduceBNe, Nat.reduceEqDiff, Nat.reduceAdd, Nat.reduceMul, Nat.reduceSub, Nat.reduceLT, Nat.reduceBEq, Nat.reduceLeDiff, reduceCtorEq, Int.reduceToNat, Int.reduceNeg, Int.reduceEq, Int.reduceLE, Int.reduceLT, hv])))
    refine ret_givesRE (R := asksR (Expr.mk ekind' enumber' ename' eparts')) TT (by simp only [go_sem, ↓reduceIte, Nat.reduceEqDiff, Nat.reduceAdd, Nat.reduceLT, Nat.reduceLeDiff, reduceCtorEq, Tryz.results7]; rfl) rfl ?_
    exact ⟨l, by simp [resV, AV.erR, AV.er, DV.er, er_encS'], by omega, fun _ => h1⟩
end Go.Proofs.YtfgalmgldidcmaaGreat
