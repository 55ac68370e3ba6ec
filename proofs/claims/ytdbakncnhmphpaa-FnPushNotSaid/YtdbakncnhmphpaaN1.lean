/- Walks of functions of the cut by the abstract logic, and what they compute. Filled by a program of mine from a template. -/
import Derived.Test.YtdbakncnhmphpaaO0
import Derived.Test.YtdbakncnhmphpaaCoreE
namespace Go.Proofs.Ytdbakncnhmphpaa
open Go Go.AL
set_option linter.unusedSimpArgs false
set_option linter.unusedVariables false
/-! ### A copy of an expression owns its memory -/
theorem withU (k n : Int) (nm : List UInt8) (P0 X : List (List DV)) (o : Own) (hq : X.length ≤ 1000000000) : AC Try.prog 61 [.agg [.int .i64 k, .int .i64 n, .str nm, .sl 4 P0 .no], .d (.sl 4 X o)] [] fun n0 v ob t m => v = .agg [.int .i64 k, .int .i64 n, .str nm, .sl 4 X (.tok n0)] ∧ ob = [] ∧ t = [n0] ∧ m = n0 + 1 := by
  refine ac_of_body TT Try.call61 Try.func61 rfl (by simp [Try.ntmps61]) (by kernel_rfl) fun E hk => ?_
  (repeat' (first | with_reducible (first | refine awp_seq ?_ | refine awp_block ?_ | refine awp_skip ?_ | refine awp_exit ?_ | refine awp_ret ?_ | refine athen_normal ?_ | refine athen_ret ?_ | refine athen_exit ?_ | refine ablock_normal ?_ | refine ablock_ret ?_ | refine ablock_here ?_ | refine ablock_far rfl ?_ | (refine hK _ ?_; clear K hK) | refine awp_cond_t rfl ?_ | refine awp_cond_f rfl ?_ | intro hfact) | (with_reducible refine And.intro ?_ ?_; focus (first | assumption | omega | (simp; done) | ((repeat' apply And.intro) <;> first | assumption | omega) | ((repeat' split) <;> omega))) | ((first | with_reducible (first | ((refine awp_seqr TT ?_); intro K hK) | ((refine awp_region TT ?_); intro K hK) | ((refine awp_seqrF TT [] MX (by kernel_rfl) (by kernel_rfl) ?_); intro K hK) | ((refine awp_regionF TT [] MX (by kernel_rfl) (by kernel_rfl) ?_); intro K hK)) | (with_reducible (first | refine guard_split_t TT E (fun hb => ?_) (fun hb => ?_) | refine guard_split_f TT E (fun hb => ?_) (fun hb => ?_) | refine guardD_split_t TT _ _ (fun hb => ?_) (fun hb => ?_) | refine guardD_split_f TT _ _ (fun hb => ?_) (fun hb => ?_)) <;> try simp only [hb])) <;> simp only [go_sem, ↓reduceIte, Int.reduceBEq, Int.reduceBNe, Nat.reduceEqDiff, Nat.reduceAdd, Nat.reduceMul, Nat.reduceSub, Nat.reduceLT, Nat.reduceBEq, Nat.reduceLeDiff, reduceCtorEq, Int.reduceToNat, Int.reduceNeg, Int.reduceEq, Int.reduceLE, Int.reduceLT])))
  refine ret_R TT (m := 0) (toks := [E.nt0]) (by simp only [go_sem, ↓reduceIte, Nat.reduceEqDiff, Nat.reduceAdd, Nat.reduceLT, Nat.reduceLeDiff, reduceCtorEq, Try.results61]; rfl) (by simp) (by simp) rfl ⟨rfl, rfl, rfl, rfl⟩
theorem sameU (k n : Int) (nm : List UInt8) (X : List (List DV)) (o : Own) : AC Try.prog 66 [.agg [.int .i64 k, .int .i64 n, .str nm, .sl 4 X o]] [] fun n0 v ob t m => v = .agg [.int .i64 k, .int .i64 n, .str nm, .sl 4 X o] ∧ ob = [] ∧ t = [] ∧ m = n0 := by
  refine ac_of_body TT Try.call66 Try.func66 rfl (by simp [Try.ntmps66]) (by kernel_rfl) fun E hk => ?_
  (repeat' (first | with_reducible (first | refine awp_seq ?_ | refine awp_block ?_ | refine awp_skip ?_ | refine awp_exit ?_ | refine awp_ret ?_ | refine athen_normal ?_ | refine athen_ret ?_ | refine athen_exit ?_ | refine ablock_normal ?_ | refine ablock_ret ?_ | refine ablock_here ?_ | refine ablock_far rfl ?_ | (refine hK _ ?_; clear K hK) | refine awp_cond_t rfl ?_ | refine awp_cond_f rfl ?_ | intro hfact) | (with_reducible refine And.intro ?_ ?_; focus (first | assumption | omega | (simp; done) | ((repeat' apply And.intro) <;> first | assumption | omega) | ((repeat' split) <;> omega))) | ((first | with_reducible (first | ((refine awp_seqr TT ?_); intro K hK) | ((refine awp_region TT ?_); intro K hK) | ((refine awp_seqrF TT [] MX (by kernel_rfl) (by kernel_rfl) ?_); intro K hK) | ((refine awp_regionF TT [] MX (by kernel_rfl) (by kernel_rfl) ?_); intro K hK)) | (with_reducible (first | refine guard_split_t TT E (fun hb => ?_) (fun hb => ?_) | refine guard_split_f TT E (fun hb => ?_) (fun hb => ?_) | refine guardD_split_t TT _ _ (fun hb => ?_) (fun hb => ?_) | refine guardD_split_f TT _ _ (fun hb => ?_) (fun hb => ?_)) <;> try simp only [hb])) <;> simp only [go_sem, ↓reduceIte, Int.reduceBEq, Int.reduceBNe, Nat.reduceEqDiff, Nat.reduceAdd, Nat.reduceMul, Nat.reduceSub, Nat.reduceLT, Nat.reduceBEq, Nat.reduceLeDiff, reduceCtorEq, Int.reduceToNat, Int.reduceNeg, Int.reduceEq, Int.reduceLE, Int.reduceLT])))
  refine ret_R TT (m := 0) (toks := []) (by simp only [go_sem, ↓reduceIte, Nat.reduceEqDiff, Nat.reduceAdd, Nat.reduceLT, Nat.reduceLeDiff, reduceCtorEq, Try.results66]; rfl) (by simp) (by simp) rfl ⟨rfl, rfl, rfl, rfl⟩
theorem tk_pushE {X : List (List DV)} {us t1 : List Nat} {own : Own} {n nt m : Nat} (h : ownG X us own n nt) (h1 : ∀ t ∈ t1, nt ≤ t ∧ t < m) : ∀ t ∈ tkOf (.tok m) ++ (us ++ t1), t ∈ m :: dropTok own (t1 ++ (tkOf own ++ us)) := by
  intro t ht
  obtain ⟨g1, g2, g3, g4, g5⟩ := h
  simp only [tkOf, List.cons_append, List.nil_append, List.mem_cons, List.mem_append] at ht
  rcases ht with rfl | ht | ht
  · simp
  · exact List.mem_cons_of_mem _ (mem_dropTok (by simp [ht]) fun hin => g4 t hin ht)
  · refine List.mem_cons_of_mem _ (mem_dropTok (by simp [ht]) fun hin => ?_)
    rcases g3 with ⟨rfl, _⟩ | ⟨u, rfl, _, h7⟩
    · simp [tkOf] at hin
    · simp [tkOf] at hin
      subst hin
      have := (h1 t ht).1
      omega
abbrev SE (X : List (List DV)) (own : Own) : AV := .d (.sl 4 X own)
theorem mappedO : ∀ e, cntE e ≤ 1000000000 → AC Try.prog 65 [EAx e, .fn 66 []] [] (OwnR (EAx e)) := by
  intro e
  induction e using Expr.ind with
  | h k n nm ps ih =>
  intro hc
  rw [cntE_mk] at hc
  have hlen := cntEs_lenx ps
  dsimp only [EAx, Expr.kind, Expr.number, Expr.name, Expr.parts]
  refine ac_of_body TT Try.call65 Try.func65 rfl (by simp [Try.ntmps65]) (by kernel_rfl) fun E hk => ?_
  (repeat' (first | with_reducible (first | refine awp_seq ?_ | refine awp_block ?_ | refine awp_skip ?_ | refine awp_exit ?_ | refine awp_ret ?_ | refine athen_normal ?_ | refine athen_ret ?_ | refine athen_exit ?_ | refine ablock_normal ?_ | refine ablock_ret ?_ | refine ablock_here ?_ | refine ablock_far rfl ?_ | (refine hK _ ?_; clear K hK) | refine awp_cond_t rfl ?_ | refine awp_cond_f rfl ?_ | intro hfact) | (with_reducible refine And.intro ?_ ?_; focus (first | assumption | omega | (simp; done) | ((repeat' apply And.intro) <;> first | assumption | omega) | ((repeat' split) <;> omega))) | ((first | with_reducible (first | ((refine awp_seqr TT ?_); intro K hK) | ((refine awp_region TT ?_); intro K hK) | ((refine awp_seqrF TT [] MX (by kernel_rfl) (by kernel_rfl) ?_); intro K hK) | ((refine awp_regionF TT [] MX (by kernel_rfl) (by kernel_rfl) ?_); intro K hK)) | (with_reducible (first | refine guard_split_t TT E (fun hb => ?_) (fun hb => ?_) | refine guard_split_f TT E (fun hb => ?_) (fun hb => ?_) | refine guardD_split_t TT _ _ (fun hb => ?_) (fun hb => ?_) | refine guardD_split_f TT _ _ (fun hb => ?_) (fun hb => ?_)) <;> try simp only [hb]) | ((first | refine callK_pure TT E (with_ok _ _ _ _ _ (by first | assumption | omega | (refine (?_ : (0 : Int) ≤ _ → _) ?_ <;> first | assumption | omega) | (simp; done) | (simp; omega))) rfl rfl ?_ | refine callKD_pure TT _ _ (with_ok _ _ _ _ _ (by first | assumption | omega | (refine (?_ : (0 : Int) ≤ _ → _) ?_ <;> first | assumption | omega) | (simp; done) | (simp; omega))) rfl rfl ?_); intro m hm; try dsimp only at hm)) <;> simp only [go_sem, ↓reduceIte, Int.reduceBEq, Int.reduceBNe, Nat.reduceEqDiff, Nat.reduceAdd, Nat.reduceMul, Nat.reduceSub, Nat.reduceLT, Nat.reduceBEq, Nat.reduceLeDiff, reduceCtorEq, Int.reduceToNat, Int.reduceNeg, Int.reduceEq, Int.reduceLE, Int.reduceLT])))
  refine awp_zip (ps) (List.length (ps)) 9 [] [1, 2, 4, 9, 10] (fun j s => [(11, I j), (5, SE s.1 s.2.2)]) (fun obs j s => obs) (fun j s => tkOf s.2.2 ++ s.2.1) (fun j rest s nt => erLL s.1 = (ps.take j).map encE ∧ ownG s.1 s.2.1 s.2.2 E.nt0 nt) ((([] : List (List DV)), ([] : List Nat), Own.full)) (by first | rfl | (simp; done) | (simp; omega)) (by first | rfl | (simp only [go_sem, ↓reduceIte, Nat.reduceEqDiff, Nat.reduceAdd, Nat.reduceLT, Nat.reduceLeDiff, reduceCtorEq]; done) | (simp only [go_sem, ↓reduceIte, Nat.reduceEqDiff, Nat.reduceAdd, Nat.reduceLT, Nat.reduceLeDiff, reduceCtorEq]; simp; done)) (by simp only [go_sem, ↓reduceIte, Nat.reduceEqDiff, Nat.reduceAdd, Nat.reduceLT, Nat.reduceLeDiff, reduceCtorEq]; rfl) (by first | rfl | (simp only [go_sem, ↓reduceIte, Nat.reduceEqDiff, Nat.reduceAdd, Nat.reduceLT, Nat.reduceLeDiff, reduceCtorEq]; rfl)) (⟨by simp [erLL], ownG_0 (by first | omega | (dsimp only; omega))⟩) (by unfold ASubW; simp only [go_sem, ↓reduceIte, Nat.reduceEqDiff, Nat.reduceAdd, Nat.reduceLT, Nat.reduceLeDiff, reduceCtorEq, hk]; try simp [tkOf, SE, emptyA_nil]) ?_ ?_
  · rintro ⟨X, us, own⟩ nt hmax ⟨he, hg⟩
    dsimp only at he hg
    rw [List.take_of_length_le (Nat.le_refl _)] at he
    have hXl : X.length ≤ 1000000000 := by
      have h9 := congrArg List.length he
      rw [erLL_eq, List.length_map, List.length_map] at h9
      omega
    (repeat' (first | ((refine awp_regionS (id := 7) TT 3 ?_; intro K hK; simp only [List.take_succ_cons, List.take_zero]; simp only [go_sem, ↓reduceIte, Nat.reduceEqDiff, Nat.reduceAdd, Nat.reduceLT, Nat.reduceLeDiff, reduceCtorEq])) | with_reducible (first | refine awp_seq ?_ | refine awp_block ?_ | refine awp_skip ?_ | refine awp_exit ?_ | refine awp_ret ?_ | refine athen_normal ?_ | refine athen_ret ?_ | refine athen_exit ?_ | refine ablock_normal ?_ | refine ablock_ret ?_ | refine ablock_here ?_ | refine ablock_far rfl ?_ | (refine hK _ ?_; clear K hK) | refine awp_cond_t rfl ?_ | refine awp_cond_f rfl ?_ | intro hfact) | (with_reducible refine And.intro ?_ ?_; focus (first | assumption | omega | (simp; done) | ((repeat' apply And.intro) <;> first | assumption | omega) | ((repeat' split) <;> omega))) | ((first | with_reducible (first | ((refine awp_seqr TT ?_); intro K hK) | ((refine awp_region TT ?_); intro K hK) | ((refine awp_seqrF TT [] MX (by kernel_rfl) (by kernel_rfl) ?_); intro K hK) | ((refine awp_regionF TT [] MX (by kernel_rfl) (by kernel_rfl) ?_); intro K hK)) | (with_reducible (first | refine guard_split_t TT E (fun hb => ?_) (fun hb => ?_) | refine guard_split_f TT E (fun hb => ?_) (fun hb => ?_) | refine guardD_split_t TT _ _ (fun hb => ?_) (fun hb => ?_) | refine guardD_split_f TT _ _ (fun hb => ?_) (fun hb => ?_)) <;> try simp only [hb])) <;> simp only [go_sem, ↓reduceIte, Int.reduceBEq, Int.reduceBNe, Nat.reduceEqDiff, Nat.reduceAdd, Nat.reduceMul, Nat.reduceSub, Nat.reduceLT, Nat.reduceBEq, Nat.reduceLeDiff, reduceCtorEq, Int.reduceToNat, Int.reduceNeg, Int.reduceEq, Int.reduceLE, Int.reduceLT])))
    simp only [List.drop_succ_cons, List.drop_zero]
    refine sem_call (withU k n nm (ps.map encE) X own (by omega)) rfl rfl rfl ?_
    rintro r os t1 m1 ⟨rfl, rfl, rfl, rfl⟩ hm
    simp only [go_sem, ↓reduceIte, Nat.reduceEqDiff, Nat.reduceAdd, Nat.reduceLT, Nat.reduceLeDiff, reduceCtorEq]
    refine sem_call (sameU k n nm X (.tok nt)) rfl rfl rfl ?_
    rintro r os t1 m1 ⟨rfl, rfl, rfl, rfl⟩ hm2
    simp only [go_sem, ↓reduceIte, Nat.reduceEqDiff, Nat.reduceAdd, Nat.reduceLT, Nat.reduceLeDiff, reduceCtorEq]
    refine sem_rvc TT ?_
    intro K hK
    simp only [go_sem, ↓reduceIte, Nat.reduceEqDiff, Nat.reduceAdd, Nat.reduceLT, Nat.reduceLeDiff, reduceCtorEq]
    (repeat' (first | with_reducible (first | refine awp_seq ?_ | refine awp_block ?_ | refine awp_skip ?_ | refine awp_exit ?_ | refine awp_ret ?_ | refine athen_normal ?_ | refine athen_ret ?_ | refine athen_exit ?_ | refine ablock_normal ?_ | refine ablock_ret ?_ | refine ablock_here ?_ | refine ablock_far rfl ?_ | (refine hK _ ?_; clear K hK) | refine awp_cond_t rfl ?_ | refine awp_cond_f rfl ?_ | intro hfact) | (with_reducible refine And.intro ?_ ?_; focus (first | assumption | omega | (simp; done) | ((repeat' apply And.intro) <;> first | assumption | omega) | ((repeat' split) <;> omega))) | ((first | with_reducible (first | ((refine awp_seqr TT ?_); intro K hK) | ((refine awp_region TT ?_); intro K hK) | ((refine awp_seqrF TT [] MX (by kernel_rfl) (by kernel_rfl) ?_); intro K hK) | ((refine awp_regionF TT [] MX (by kernel_rfl) (by kernel_rfl) ?_); intro K hK)) | (with_reducible (first | refine guard_split_t TT E (fun hb => ?_) (fun hb => ?_) | refine guard_split_f TT E (fun hb => ?_) (fun hb => ?_) | refine guardD_split_t TT _ _ (fun hb => ?_) (fun hb => ?_) | refine guardD_split_f TT _ _ (fun hb => ?_) (fun hb => ?_)) <;> try simp only [hb]) | ((first | refine callK_pure TT E (with_ok _ _ _ _ _ (by first | assumption | omega | (refine (?_ : (0 : Int) ≤ _ → _) ?_ <;> first | assumption | omega) | (simp; done) | (simp; omega))) rfl rfl ?_ | refine callKD_pure TT _ _ (with_ok _ _ _ _ _ (by first | assumption | omega | (refine (?_ : (0 : Int) ≤ _ → _) ?_ <;> first | assumption | omega) | (simp; done) | (simp; omega))) rfl rfl ?_); intro m hm; try dsimp only at hm)) <;> simp only [go_sem, ↓reduceIte, Int.reduceBEq, Int.reduceBNe, Nat.reduceEqDiff, Nat.reduceAdd, Nat.reduceMul, Nat.reduceSub, Nat.reduceLT, Nat.reduceBEq, Nat.reduceLeDiff, reduceCtorEq, Int.reduceToNat, Int.reduceNeg, Int.reduceEq, Int.reduceLE, Int.reduceLT])))
    obtain ⟨g1, g2, g3, g4, g5⟩ := hg
    refine ret_R TT (m := 0) (toks := nt :: us) (by simp only [go_sem, ↓reduceIte, Nat.reduceEqDiff, Nat.reduceAdd, Nat.reduceLT, Nat.reduceLeDiff, reduceCtorEq, Try.results65]; rfl) (by simp) (by intro t ht; simp at ht ⊢; rcases ht with h | h <;> simp [h]) rfl ⟨rfl, ?_, ?_, ?_, by dsimp only; omega⟩
    · exact show ownL _ _ from ownL_skip rfl (ownL_skip rfl (ownL_skip rfl (ownL_one (ownD_tok (fun h => by have := (g2 nt h).2; omega) g1))))
    · intro t ht
      rcases List.mem_cons.1 ht with rfl | ht
      · dsimp only; omega
      · have := g2 t ht; dsimp only; omega
    · simp [resV, AV.erR, AV.er, erL, DV.er, he]
  · rintro j x rest ⟨X, us, own⟩ nt hA ⟨he, hg⟩
    dsimp only at he hg
    have hx := ih x hA.mem (by have := cntEs_mem hA.mem; omega)
    have hj := hA.lt
    have hXl : X.length ≤ 1000000000 := by
      have h9 := congrArg List.length he
      rw [erLL_eq, List.length_map, List.length_map, List.length_take] at h9
      omega
    (repeat' (first | with_reducible (first | refine awp_seq ?_ | refine awp_block ?_ | refine awp_skip ?_ | refine awp_exit ?_ | refine awp_ret ?_ | refine athen_normal ?_ | refine athen_ret ?_ | refine athen_exit ?_ | refine ablock_normal ?_ | refine ablock_ret ?_ | refine ablock_here ?_ | refine ablock_far rfl ?_ | (refine hK _ ?_; clear K hK) | refine awp_cond_t rfl ?_ | refine awp_cond_f rfl ?_ | intro hfact) | (with_reducible refine And.intro ?_ ?_; focus (first | assumption | omega | (simp; done) | ((repeat' apply And.intro) <;> first | assumption | omega) | ((repeat' split) <;> omega))) | ((first | with_reducible (first | ((refine awp_seqr TT ?_); intro K hK) | ((refine awp_region TT ?_); intro K hK) | ((refine awp_seqrF TT [] MX (by kernel_rfl) (by kernel_rfl) ?_); intro K hK) | ((refine awp_regionF TT [] MX (by kernel_rfl) (by kernel_rfl) ?_); intro K hK)) | (with_reducible (first | refine guard_split_t TT E (fun hb => ?_) (fun hb => ?_) | refine guard_split_f TT E (fun hb => ?_) (fun hb => ?_) | refine guardD_split_t TT _ _ (fun hb => ?_) (fun hb => ?_) | refine guardD_split_f TT _ _ (fun hb => ?_) (fun hb => ?_)) <;> try simp only [hb])) <;> simp only [go_sem, ↓reduceIte, Int.reduceBEq, Int.reduceBNe, Nat.reduceEqDiff, Nat.reduceAdd, Nat.reduceMul, Nat.reduceSub, Nat.reduceLT, Nat.reduceBEq, Nat.reduceLeDiff, reduceCtorEq, Int.reduceToNat, Int.reduceNeg, Int.reduceEq, Int.reduceLE, Int.reduceLT, hA.d, hA.w, hA.lt, hA.g, encE_eq])))
    refine callK_ac TT E [] hx rfl rfl rfl (by decide) ?_
    rintro r os t1 m1 ⟨rfl, hO, hT1, hE, hm1⟩
    obtain ⟨cs, rfl, hcs, hO1, hl⟩ := own_agg hO hE
    obtain ⟨x1, rfl, hcs, hO1⟩ := own_head hcs rfl hO1
    obtain ⟨x2, rfl, hcs, hO1⟩ := own_head hcs rfl hO1
    obtain ⟨x3, rfl, hcs, hO1⟩ := own_head hcs rfl hO1
    obtain ⟨D, rfl, hD, hO1⟩ := own_last hcs hO1
    dsimp only at hT1 hm1
    have ho2 : ownOK own (t1 ++ (tkOf own ++ us)) := ownOK_mem (ownS_lt hg.2.2.1) (by intro t ht; simp [ht])
    have htk := tk_pushE hg hT1
    have hpush := ownG_push hg (ownL_skip (a := .int .i64 x.kind) rfl (ownL_skip (a := .int .i64 x.number) rfl (ownL_skip (a := .str x.name) rfl (ownL_one hO1)))) hT1 hm1
    simp only [go_sem, ↓reduceIte, Nat.reduceEqDiff, Nat.reduceAdd, Nat.reduceLT, Nat.reduceLeDiff, reduceCtorEq]
    (repeat' (first | with_reducible (first | refine awp_seq ?_ | refine awp_block ?_ | refine awp_skip ?_ | refine awp_exit ?_ | refine awp_ret ?_ | refine athen_normal ?_ | refine athen_ret ?_ | refine athen_exit ?_ | refine ablock_normal ?_ | refine ablock_ret ?_ | refine ablock_here ?_ | refine ablock_far rfl ?_ | (refine hK _ ?_; clear K hK) | refine awp_cond_t rfl ?_ | refine awp_cond_f rfl ?_ | intro hfact) | (with_reducible refine And.intro ?_ ?_; focus (first | assumption | omega | (simp; done) | ((repeat' apply And.intro) <;> first | assumption | omega) | ((repeat' split) <;> omega))) | ((first | with_reducible (first | ((refine awp_seqr TT ?_); intro K hK) | ((refine awp_region TT ?_); intro K hK) | ((refine awp_seqrF TT [] MX (by kernel_rfl) (by kernel_rfl) ?_); intro K hK) | ((refine awp_regionF TT [] MX (by kernel_rfl) (by kernel_rfl) ?_); intro K hK)) | (with_reducible (first | refine guard_split_t TT E (fun hb => ?_) (fun hb => ?_) | refine guard_split_f TT E (fun hb => ?_) (fun hb => ?_) | refine guardD_split_t TT _ _ (fun hb => ?_) (fun hb => ?_) | refine guardD_split_f TT _ _ (fun hb => ?_) (fun hb => ?_)) <;> try simp only [hb])) <;> simp only [go_sem, ↓reduceIte, Int.reduceBEq, Int.reduceBNe, Nat.reduceEqDiff, Nat.reduceAdd, Nat.reduceMul, Nat.reduceSub, Nat.reduceLT, Nat.reduceBEq, Nat.reduceLeDiff, reduceCtorEq, Int.reduceToNat, Int.reduceNeg, Int.reduceEq, Int.reduceLE, Int.reduceLT, hD, hA.w])))
    refine ⟨(X ++ [[.int .i64 x.kind, .int .i64 x.number, .str x.name, D]], us ++ t1, .tok m1), ⟨?_, hpush⟩, ?_⟩
    · rw [erLL_append, he, hA.snoc, List.map_append]
      simp [erLL, erL, DV.er, hD, encE_eq]
    · refine ⟨?_, ?_, ?_, htk, ?_⟩ <;> (simp only [go_sem, ↓reduceIte, Nat.reduceEqDiff, Nat.reduceAdd, Nat.reduceLT, Nat.reduceLeDiff, reduceCtorEq, hk, SE]; try simp)
theorem cloneEO (e : Expr) (hc : cntE e ≤ 1000000000) : AC Try.prog 33 [EAx e] [] (OwnR (EAx e)) := by
  have h1 := mappedO e hc
  refine ac_of_body TT Try.call33 Try.func33 rfl (by simp [Try.ntmps33]) (by kernel_rfl) fun E hk => ?_
  (repeat' (first | with_reducible (first | refine awp_seq ?_ | refine awp_block ?_ | refine awp_skip ?_ | refine awp_exit ?_ | refine awp_ret ?_ | refine athen_normal ?_ | refine athen_ret ?_ | refine athen_exit ?_ | refine ablock_normal ?_ | refine ablock_ret ?_ | refine ablock_here ?_ | refine ablock_far rfl ?_ | (refine hK _ ?_; clear K hK) | refine awp_cond_t rfl ?_ | refine awp_cond_f rfl ?_ | intro hfact) | (with_reducible refine And.intro ?_ ?_; focus (first | assumption | omega | (simp; done) | ((repeat' apply And.intro) <;> first | assumption | omega) | ((repeat' split) <;> omega))) | ((first | with_reducible (first | ((refine awp_seqr TT ?_); intro K hK) | ((refine awp_region TT ?_); intro K hK) | ((refine awp_seqrF TT [] MX (by kernel_rfl) (by kernel_rfl) ?_); intro K hK) | ((refine awp_regionF TT [] MX (by kernel_rfl) (by kernel_rfl) ?_); intro K hK)) | (with_reducible (first | refine guard_split_t TT E (fun hb => ?_) (fun hb => ?_) | refine guard_split_f TT E (fun hb => ?_) (fun hb => ?_) | refine guardD_split_t TT _ _ (fun hb => ?_) (fun hb => ?_) | refine guardD_split_f TT _ _ (fun hb => ?_) (fun hb => ?_)) <;> try simp only [hb])) <;> simp only [go_sem, ↓reduceIte, Int.reduceBEq, Int.reduceBNe, Nat.reduceEqDiff, Nat.reduceAdd, Nat.reduceMul, Nat.reduceSub, Nat.reduceLT, Nat.reduceBEq, Nat.reduceLeDiff, reduceCtorEq, Int.reduceToNat, Int.reduceNeg, Int.reduceEq, Int.reduceLE, Int.reduceLT])))
  refine callK_ac TT E [] h1 rfl rfl rfl (by decide) ?_
  rintro r os t1 m1 ⟨rfl, hO, hT1, hE, hm1⟩
  obtain ⟨cs, rfl, hcs, hO1, hl⟩ := own_agg hO hE
  obtain ⟨x1, rfl, hcs, hO1⟩ := own_head hcs rfl hO1
  obtain ⟨x2, rfl, hcs, hO1⟩ := own_head hcs rfl hO1
  obtain ⟨x3, rfl, hcs, hO1⟩ := own_head hcs rfl hO1
  obtain ⟨D, rfl, hD, hO1⟩ := own_last hcs hO1
  simp only [go_sem, ↓reduceIte, Nat.reduceEqDiff, Nat.reduceAdd, Nat.reduceLT, Nat.reduceLeDiff, reduceCtorEq]
  (repeat' (first | with_reducible (first | refine awp_seq ?_ | refine awp_block ?_ | refine awp_skip ?_ | refine awp_exit ?_ | refine awp_ret ?_ | refine athen_normal ?_ | refine athen_ret ?_ | refine athen_exit ?_ | refine ablock_normal ?_ | refine ablock_ret ?_ | refine ablock_here ?_ | refine ablock_far rfl ?_ | (refine hK _ ?_; clear K hK) | refine awp_cond_t rfl ?_ | refine awp_cond_f rfl ?_ | intro hfact) | (with_reducible refine And.intro ?_ ?_; focus (first | assumption | omega | (simp; done) | ((repeat' apply And.intro) <;> first | assumption | omega) | ((repeat' split) <;> omega))) | ((first | with_reducible (first | ((refine awp_seqr TT ?_); intro K hK) | ((refine awp_region TT ?_); intro K hK) | ((refine awp_seqrF TT [] MX (by kernel_rfl) (by kernel_rfl) ?_); intro K hK) | ((refine awp_regionF TT [] MX (by kernel_rfl) (by kernel_rfl) ?_); intro K hK)) | (with_reducible (first | refine guard_split_t TT E (fun hb => ?_) (fun hb => ?_) | refine guard_split_f TT E (fun hb => ?_) (fun hb => ?_) | refine guardD_split_t TT _ _ (fun hb => ?_) (fun hb => ?_) | refine guardD_split_f TT _ _ (fun hb => ?_) (fun hb => ?_)) <;> try simp only [hb])) <;> simp only [go_sem, ↓reduceIte, Int.reduceBEq, Int.reduceBNe, Nat.reduceEqDiff, Nat.reduceAdd, Nat.reduceMul, Nat.reduceSub, Nat.reduceLT, Nat.reduceBEq, Nat.reduceLeDiff, reduceCtorEq, Int.reduceToNat, Int.reduceNeg, Int.reduceEq, Int.reduceLE, Int.reduceLT])))
  refine ret_R TT (m := 0) (toks := t1) (by simp only [go_sem, ↓reduceIte, Nat.reduceEqDiff, Nat.reduceAdd, Nat.reduceLT, Nat.reduceLeDiff, reduceCtorEq, Try.results33]; rfl) (by simp) (by intro t ht; simpa using ht) rfl ⟨rfl, ?_, hT1, ?_, hm1⟩
  · exact show ownL _ _ from ownL_skip rfl (ownL_skip rfl (ownL_skip rfl (ownL_one hO1)))
  · simp [resV, AV.erR, AV.er, erL, DV.er, hD]
end Go.Proofs.Ytdbakncnhmphpaa
