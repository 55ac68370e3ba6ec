/- Walks of functions of the cut by the abstract logic, and what they compute. Filled by a program of mine from a template. -/
import Derived.Test.YtdbakncnhmphpaaY12
import Derived.Test.YtdbakncnhmphpaaN3
namespace Go.Proofs.Ytdbakncnhmphpaa
open Go Go.AL
set_option linter.unusedSimpArgs false
set_option linter.unusedVariables false
theorem cEq_le {k n : Int} {nm : List UInt8} {ps : List Expr} (h : smExpr (.mk k n nm ps)) : cnL cE ps ≤ 8796093022208 ∧ cntE (.mk k n nm ps) ≤ 4611686018427387904 := by
  have h2 := cnt_le_w (.mk k n nm ps)
  rw [cEs_cnt]
  have h3 : cntEs ps < cntE (.mk k n nm ps) := by rw [cntE_mk]; omega
  unfold smExpr BIG at h
  omega
theorem cnK_le (l : List Kinded) (h : l.length ≤ 1048576) : cnL cK l ≤ 2097152 := by
  have : cnL cK l = 2 * (l.length : Int) := by
    clear h
    induction l with
    | nil => simp [cnL]
    | cons x r ih => simp only [cnL, cK, ih, List.length_cons]; omega
  omega
theorem exprA_ex (o : Option Expr) : ∃ (gk gn : Int) (gnm : List UInt8) (gps : List Expr) (c : Bool), exprA o = .tup [.agg [.int .i64 gk, .int .i64 gn, .str gnm, .sl 4 (gps.map encE) .no], .d (.bool c)] ∧ (gps = [] ∨ o = some (.mk gk gn gnm gps)) := by
  cases o with
  | none => exact ⟨0, 0, [], [], false, rfl, .inl rfl⟩
  | some q => obtain ⟨q1, q2, q3, q4⟩ := q; exact ⟨q1, q2, q3, q4, true, rfl, .inr rfl⟩
theorem pushN_cnt {a b : List Kinded} {e q : Expr} (h : pushN a b e = some q) : cntE q ≤ 80 := by
  unfold pushN at h
  split at h
  · rename_i hc
    have h1 := kind1 hc.1
    have h2 := pushE_cnt e false
    cases h
    omega
  · cases h
def encSchema (s : Schema) : List DV := [.sl 2 (s.things.map encK) .no, .sl 2 (s.requests.map encK) .no]
theorem two_dv {cs : List DV} (h : cs.length = 2) : ∃ x y, cs = [x, y] := by
  match cs, h with
  | [x, y], _ => exact ⟨x, y, rfl⟩
theorem pushN_ok (a b : List Kinded) (k n : Int) (nm : List UInt8) (ps : List Expr) : Gives Try.prog 10 [.agg [.sl 2 (a.map encK) .no, .sl 2 (b.map encK) .no], .agg [.int .i64 k, .int .i64 n, .str nm, .sl 4 (ps.map encE) .no]] (exprA (pushN a b (.mk k n nm ps))) := AC.erM (AC.noTok (pushNO a b k n nm ps)) fun _ _ _ _ _ ⟨ht, _, ho, _, _, he, _⟩ => ⟨he, ho, ht⟩
set_option maxHeartbeats 16000000 in
set_option maxRecDepth 100000 in
theorem xPush (a b : List Kinded) (k n : Int) (nm : List UInt8) (ps : List Expr) : Gives Try.prog 3 [.agg [.sl 2 (a.map encK) .no, .sl 2 (b.map encK) .no], .agg [.int .i64 k, .int .i64 n, .str nm, .sl 4 (ps.map encE) .no]] (B true) := by
  refine ac_of_body TT Try.call3 Try.func3 rfl (by simp [Try.ntmps3]) (by kernel_rfl) fun E hk => ?_
  have hB : (1048576 : Int) ≤ BIG := by unfold BIG; omega
  obtain ⟨gk, gn, gnm, gps, c, hg, hgp⟩ := exprA_ex (pushN a b (.mk k n nm ps))
  have hsp := fun (h : smExpr (.mk k n nm ps)) => spushN_ok a b k n nm ps (cEq_le h).2
  have him := pushNO a b k n nm ps
  have hip := pushN_ok a b k n nm ps
  rw [hg] at him hip
  simp only [hg] at hsp
  (repeat' (first | (revert hdone; intro hdone; refine Stop.go ?_) | with_reducible (first | refine awp_seq ?_ | refine awp_block ?_ | refine awp_skip ?_ | refine awp_exit ?_ | refine awp_ret ?_ | refine athen_normal ?_ | refine athen_ret ?_ | refine athen_exit ?_ | refine ablock_normal ?_ | refine ablock_ret ?_ | refine ablock_here ?_ | refine ablock_far rfl ?_ | (refine hK _ ?_; clear K hK) | refine awp_cond_t rfl ?_ | refine awp_cond_f rfl ?_ | intro hfact) | (with_reducible refine And.intro ?_ ?_; focus (first | assumption | omega | (simp; done) | ((repeat' apply And.intro) <;> first | assumption | omega) | ((repeat' split) <;> omega))) | ((first | with_reducible (first | ((refine awp_seqr TT ?_); intro K hK) | ((refine awp_region TT ?_); intro K hK) | ((refine awp_seqrF TT [] MX (by kernel_rfl) (by kernel_rfl) ?_); intro K hK) | ((refine awp_regionF TT [] MX (by kernel_rfl) (by kernel_rfl) ?_); intro K hK)) | (with_reducible (first | refine guard_split_t TT E (fun hb => ?_) (fun hb => ?_) | refine guard_split_f TT E (fun hb => ?_) (fun hb => ?_) | refine guardD_split_t TT _ _ (fun hb => ?_) (fun hb => ?_) | refine guardD_split_f TT _ _ (fun hb => ?_) (fun hb => ?_)) <;> try simp only [hb]) | (refine callK_pureR TT E (szSchema_ok a b _ (by first | assumption | omega | (refine (?_ : (0 : Int) ≤ _ → _) ?_ <;> first | assumption | omega) | (simp; done) | (simp; omega)) (by first | assumption | omega | (refine (?_ : (0 : Int) ≤ _ → _) ?_ <;> first | assumption | omega) | (simp; done) | (simp; omega))) rfl ?_; rintro _ m ⟨s0, rfl, hsa0, hsb0, hhp⟩ hm) | (refine callK_pureR TT E (szExpr_ok k n nm ps _ (by first | assumption | omega | (refine (?_ : (0 : Int) ≤ _ → _) ?_ <;> first | assumption | omega) | (simp; done) | (simp; omega)) (by first | assumption | omega | (refine (?_ : (0 : Int) ≤ _ → _) ?_ <;> first | assumption | omega) | (simp; done) | (simp; omega))) rfl ?_; rintro _ m ⟨s1, rfl, hsa1, hsb1, hhe0⟩ hm; have hhe : 0 ≤ s1 → smExpr (.mk k n nm ps) := (fun h => by have := hhe0 h; unfold smExpr; omega)) | ((first | refine callK_pure TT E (toSchema_ok a b (hhp (by omega))) rfl rfl ?_ | refine callKD_pure TT _ _ (toSchema_ok a b (hhp (by omega))) rfl rfl ?_); intro m hm; try dsimp only at hm) | ((first | refine callK_pure TT E (toExpr_ok k n nm ps (hhe (by omega))) rfl rfl ?_ | refine callKD_pure TT _ _ (toExpr_ok k n nm ps (hhe (by omega))) rfl rfl ?_); intro m hm; try dsimp only at hm) | ((first | refine callK_pure TT E (hsp (hhe (by omega))) rfl rfl ?_ | refine callKD_pure TT _ _ (hsp (hhe (by omega))) rfl rfl ?_); intro m hm; try dsimp only at hm; have hdone : True := trivial)) <;> simp only [go_sem, ↓reduceIte, Int.reduceBEq, Int.reduceBNe, Nat.reduceEqDiff, Nat.reduceAdd, Nat.reduceMul, Nat.reduceSub, Nat.reduceLT, Nat.reduceBEq, Nat.reduceLeDiff, reduceCtorEq, Int.reduceToNat, Int.reduceNeg, Int.reduceEq, Int.reduceLE, Int.reduceLT, bne_self_eq_false]) | refine awp_condN rfl (fun hb => ?_) (fun hb => ?_) | refine awp_condP rfl (fun hb => ?_) (fun hb => ?_) | refine awp_cond rfl (fun hb => ?_) (fun hb => ?_)))
  all_goals first | (refine ret_gives TT (by simp only [go_sem, ↓reduceIte, Nat.reduceEqDiff, Nat.reduceAdd, Nat.reduceLT, Nat.reduceLeDiff, reduceCtorEq, Try.results3]; rfl) rfl ?_; rfl) | skip
  have hp := hhp (by omega)
  have he := hhe (by omega)
  have hce := (cEq_le he).1
  have hze := cnL_nn cE cE_nn ps
  have hza := cnL_nn cK (fun _ => (show (0 : Int) ≤ 2 by decide)) a
  have hzb := cnL_nn cK (fun _ => (show (0 : Int) ≤ 2 by decide)) b
  have hla : cnL cK a ≤ 2097152 := cnK_le a hp.1.1
  have hlb : cnL cK b ≤ 2097152 := cnK_le b hp.2.1
  have hcg : cnL cE gps ≤ 8796093022208 := by
    rcases hgp with rfl | hq
    · simp [cnL]
    · have h1 := pushN_cnt hq
      rw [cntE_mk] at h1
      have h2 := cEs_cnt gps
      omega
  have hzg := cnL_nn cE cE_nn gps
  refine ⟨?_⟩
  refine awp_pin 4 [2, 3, 6, 7] rfl (by simp only [go_sem, ↓reduceIte, Nat.reduceEqDiff, Nat.reduceAdd, Nat.reduceLT, Nat.reduceLeDiff, reduceCtorEq]; rfl) rfl (by simp [hk]) (by simp only [go_sem, ↓reduceIte, Nat.reduceEqDiff, Nat.reduceAdd, Nat.reduceLT, Nat.reduceLeDiff, reduceCtorEq]) ?_
  intro E ge go hk2 hpE hpO
  simp only [pnE, pnO, AV.pn, DV.pn, pnL, AO.pn, pinsE, pinsO, AV.pins, DV.pins, pinsL, AO.pins, er_encE, er_encK, and_true, true_and] at hpE hpO ⊢
  obtain ⟨⟨hq0, hq1⟩, hq2, hq3⟩ := hpO
  (repeat' (first | with_reducible (first | refine awp_seq ?_ | refine awp_block ?_ | refine awp_skip ?_ | refine awp_exit ?_ | refine awp_ret ?_ | refine athen_normal ?_ | refine athen_ret ?_ | refine athen_exit ?_ | refine ablock_normal ?_ | refine ablock_ret ?_ | refine ablock_here ?_ | refine ablock_far rfl ?_ | (refine hK _ ?_; clear K hK) | refine awp_cond_t rfl ?_ | refine awp_cond_f rfl ?_ | intro hfact) | (with_reducible refine And.intro ?_ ?_; focus (first | assumption | omega | (simp; done) | ((repeat' apply And.intro) <;> first | assumption | omega) | ((repeat' split) <;> omega))) | ((first | with_reducible (first | ((refine awp_seqr TT ?_); intro K hK) | ((refine awp_region TT ?_); intro K hK) | ((refine awp_seqrF TT [] MX (by kernel_rfl) (by kernel_rfl) ?_); intro K hK) | ((refine awp_regionF TT [] MX (by kernel_rfl) (by kernel_rfl) ?_); intro K hK)) | (with_reducible (first | refine guard_split_t TT E (fun hb => ?_) (fun hb => ?_) | refine guard_split_f TT E (fun hb => ?_) (fun hb => ?_) | refine guardD_split_t TT _ _ (fun hb => ?_) (fun hb => ?_) | refine guardD_split_f TT _ _ (fun hb => ?_) (fun hb => ?_)) <;> try simp only [hb])) <;> simp only [go_sem, ↓reduceIte, Int.reduceBEq, Int.reduceBNe, Nat.reduceEqDiff, Nat.reduceAdd, Nat.reduceMul, Nat.reduceSub, Nat.reduceLT, Nat.reduceBEq, Nat.reduceLeDiff, reduceCtorEq, Int.reduceToNat, Int.reduceNeg, Int.reduceEq, Int.reduceLE, Int.reduceLT]) | refine awp_condN rfl (fun hb => ?_) (fun hb => ?_) | refine awp_condP rfl (fun hb => ?_) (fun hb => ?_) | refine awp_cond rfl (fun hb => ?_) (fun hb => ?_)))
  refine callK_ac TT E [] (toSchemaO a b hp) rfl rfl rfl (by decide) ?_
  rintro r os t0 m0 ⟨rfl, hO, hT0, hE, hm0⟩
  obtain ⟨cs, rfl, hcs, hR0, hl⟩ := own_agg hO hE
  obtain ⟨D0, D1, rfl⟩ := two_dv (show cs.length = 2 from hl)
  simp only [erL, List.cons.injEq, and_true] at hcs
  obtain ⟨hD0, hD1⟩ := hcs
  dsimp only at hT0 hm0
  simp only [go_sem, ↓reduceIte, Nat.reduceEqDiff, Nat.reduceAdd, Nat.reduceLT, Nat.reduceLeDiff, reduceCtorEq]
  (repeat' (first | with_reducible (first | refine awp_seq ?_ | refine awp_block ?_ | refine awp_skip ?_ | refine awp_exit ?_ | refine awp_ret ?_ | refine athen_normal ?_ | refine athen_ret ?_ | refine athen_exit ?_ | refine ablock_normal ?_ | refine ablock_ret ?_ | refine ablock_here ?_ | refine ablock_far rfl ?_ | (refine hK _ ?_; clear K hK) | refine awp_cond_t rfl ?_ | refine awp_cond_f rfl ?_ | intro hfact) | (with_reducible refine And.intro ?_ ?_; focus (first | assumption | omega | (simp; done) | ((repeat' apply And.intro) <;> first | assumption | omega) | ((repeat' split) <;> omega))) | ((first | with_reducible (first | ((refine awp_seqr TT ?_); intro K hK) | ((refine awp_region TT ?_); intro K hK) | ((refine awp_seqrF TT [] MX (by kernel_rfl) (by kernel_rfl) ?_); intro K hK) | ((refine awp_regionF TT [] MX (by kernel_rfl) (by kernel_rfl) ?_); intro K hK)) | (with_reducible (first | refine guard_split_t TT E (fun hb => ?_) (fun hb => ?_) | refine guard_split_f TT E (fun hb => ?_) (fun hb => ?_) | refine guardD_split_t TT _ _ (fun hb => ?_) (fun hb => ?_) | refine guardD_split_f TT _ _ (fun hb => ?_) (fun hb => ?_)) <;> try simp only [hb])) <;> simp only [go_sem, ↓reduceIte, Int.reduceBEq, Int.reduceBNe, Nat.reduceEqDiff, Nat.reduceAdd, Nat.reduceMul, Nat.reduceSub, Nat.reduceLT, Nat.reduceBEq, Nat.reduceLeDiff, reduceCtorEq, Int.reduceToNat, Int.reduceNeg, Int.reduceEq, Int.reduceLE, Int.reduceLT, hD0, hD1]) | refine awp_condN rfl (fun hb => ?_) (fun hb => ?_) | refine awp_condP rfl (fun hb => ?_) (fun hb => ?_) | refine awp_cond rfl (fun hb => ?_) (fun hb => ?_)))
  refine callK_ac TT E [] (toExprO_all (.mk k n nm ps) he) rfl rfl rfl (by decide) ?_
  rintro r os t1 m1 ⟨rfl, hO, hT1, hE, hm1⟩
  obtain ⟨cs, rfl, hcs, hO1, hl⟩ := own_agg hO hE
  obtain ⟨x1, rfl, hcs, hO1⟩ := own_head hcs rfl hO1
  obtain ⟨x2, rfl, hcs, hO1⟩ := own_head hcs rfl hO1
  obtain ⟨x3, rfl, hcs, hO1⟩ := own_head hcs rfl hO1
  obtain ⟨D2, rfl, hD2, hO1⟩ := own_last hcs hO1
  dsimp only at hT1 hm1
  dsimp only [Expr.kind, Expr.number, Expr.name, Expr.parts] at *
  have hR1 := ownL_skip (a := .int .i64 k) rfl (ownL_skip (a := .int .i64 n) rfl (ownL_skip (a := .str nm) rfl (ownL_one hO1)))
  simp only [go_sem, ↓reduceIte, Nat.reduceEqDiff, Nat.reduceAdd, Nat.reduceLT, Nat.reduceLeDiff, reduceCtorEq]
  (repeat' (first | with_reducible (first | refine awp_seq ?_ | refine awp_block ?_ | refine awp_skip ?_ | refine awp_exit ?_ | refine awp_ret ?_ | refine athen_normal ?_ | refine athen_ret ?_ | refine athen_exit ?_ | refine ablock_normal ?_ | refine ablock_ret ?_ | refine ablock_here ?_ | refine ablock_far rfl ?_ | (refine hK _ ?_; clear K hK) | refine awp_cond_t rfl ?_ | refine awp_cond_f rfl ?_ | intro hfact) | (with_reducible refine And.intro ?_ ?_; focus (first | assumption | omega | (simp; done) | ((repeat' apply And.intro) <;> first | assumption | omega) | ((repeat' split) <;> omega))) | ((first | with_reducible (first | ((refine awp_seqr TT ?_); intro K hK) | ((refine awp_region TT ?_); intro K hK) | ((refine awp_seqrF TT [] MX (by kernel_rfl) (by kernel_rfl) ?_); intro K hK) | ((refine awp_regionF TT [] MX (by kernel_rfl) (by kernel_rfl) ?_); intro K hK)) | (with_reducible (first | refine guard_split_t TT E (fun hb => ?_) (fun hb => ?_) | refine guard_split_f TT E (fun hb => ?_) (fun hb => ?_) | refine guardD_split_t TT _ _ (fun hb => ?_) (fun hb => ?_) | refine guardD_split_f TT _ _ (fun hb => ?_) (fun hb => ?_)) <;> try simp only [hb])) <;> simp only [go_sem, ↓reduceIte, Int.reduceBEq, Int.reduceBNe, Nat.reduceEqDiff, Nat.reduceAdd, Nat.reduceMul, Nat.reduceSub, Nat.reduceLT, Nat.reduceBEq, Nat.reduceLeDiff, reduceCtorEq, Int.reduceToNat, Int.reduceNeg, Int.reduceEq, Int.reduceLE, Int.reduceLT, hD0, hD1, hD2]) | refine awp_condN rfl (fun hb => ?_) (fun hb => ?_) | refine awp_condP rfl (fun hb => ?_) (fun hb => ?_) | refine awp_cond rfl (fun hb => ?_) (fun hb => ?_)))
  refine callK_ac TT E [] him rfl rfl rfl (by decide) ?_
  rintro r os t2 m2 ⟨rfl, hO, hT2, hE, hm2⟩
  obtain ⟨cs, rfl, hcs, hO2, hl⟩ := own_tupa hO hE
  obtain ⟨x1, rfl, hcs, hO2⟩ := own_head hcs rfl hO2
  obtain ⟨x2, rfl, hcs, hO2⟩ := own_head hcs rfl hO2
  obtain ⟨x3, rfl, hcs, hO2⟩ := own_head hcs rfl hO2
  obtain ⟨D3, rfl, hD3, hO2⟩ := own_last hcs hO2
  dsimp only at hT2 hm2
  have hR2 := ownL_skip (a := .int .i64 gk) rfl (ownL_skip (a := .int .i64 gn) rfl (ownL_skip (a := .str gnm) rfl (ownL_one hO2)))
  simp only [go_sem, ↓reduceIte, Nat.reduceEqDiff, Nat.reduceAdd, Nat.reduceLT, Nat.reduceLeDiff, reduceCtorEq]
  have d01 : Disj t0 t1 := disj_lt (m := m0) (fun x hx => by have := (hT0 x hx).2; omega) (fun x hx => by have := (hT1 x hx).1; omega)
  have d02 : Disj t0 t2 := disj_lt (m := m0) (fun x hx => by have := (hT0 x hx).2; omega) (fun x hx => by have := (hT2 x hx).1; omega)
  have d12 : Disj t1 t2 := disj_lt (m := m1) (fun x hx => by have := (hT1 x hx).2; omega) (fun x hx => by have := (hT2 x hx).1; omega)
  have d0 : Disj (t1 ++ t2) t0 := fun x hx h0 => (List.mem_append.1 hx).elim (fun h => d01 x h0 h) (fun h => d02 x h0 h)
  have mk0 := markSc_ok a b 1 (by omega) (by omega)
  have mk1 := markEx_ok k n nm ps (1 + cnL cK a + cnL cK b) (by omega) (by omega)
  have mk2 := markEx_ok gk gn gnm gps 1 (by omega) (by omega)
  (repeat' (first | (refine awp_markO TT [2, 3, 6, 7, 9, 10, 11] t0 (t1 ++ t2) mk0 (by simp [erL, hD0, hD1]) (by simp [erL, DV.er, er_encE, er_encK]) rfl rfl rfl hR0 (by intro t ht; simp [ht]) (by intro t ht; simp at ht ⊢; (try simp [ht]); (try (rcases ht with h | h <;> simp [h]))) d0 (by rfl) (by rfl) (by rfl) rfl ⟨trivial, trivial, trivial, trivial, trivial, trivial, trivial, trivial⟩ ⟨⟨hq0, hq1, trivial⟩, ⟨trivial, trivial, trivial, hq2, trivial⟩, ⟨trivial, trivial, trivial, hq3, trivial⟩, trivial, keep_ownL hR1 (by intro t ht; simp [ht]), keep_ownL hR2 (by intro t ht; simp [ht]), trivial⟩ rfl rfl ?_; refine awp_gone 3 ?_) | (refine awp_markO TT [2, 3, 6, 7, 10, 11] t1 t2 mk1 (by simp [erL, DV.er, hD2]) (by simp [erL, DV.er, er_encE, er_encK]) rfl rfl rfl hR1 (by intro t ht; simp [ht]) (by intro t ht; simp at ht ⊢; (try simp [ht]); (try (rcases ht with h | h <;> simp [h]))) d12.symm (by rfl) (by rfl) (by rfl) rfl ⟨trivial, trivial, trivial, trivial, trivial, trivial, trivial⟩ ⟨⟨hq0, hq1, trivial⟩, ⟨trivial, trivial, trivial, hq2, trivial⟩, ⟨trivial, trivial, trivial, hq3, trivial⟩, trivial, trivial, keep_ownL hR2 (by intro t ht; simp [ht]), trivial⟩ rfl rfl ?_; refine awp_gone 4 ?_) | (refine awp_markO TT [2, 3, 6, 7, 10, 11] t2 [] mk2 (by simp [erL, DV.er, hD3]) (by simp [erL, DV.er, er_encE, er_encK]) rfl rfl rfl hR2 (by intro t ht; simp [ht]) (by intro t ht; simp at ht ⊢; (try simp [ht]); (try (rcases ht with h | h <;> simp [h]))) (by intro t ht; simp at ht) (by rfl) (by rfl) (by rfl) rfl ⟨trivial, trivial, trivial, trivial, trivial, trivial, trivial⟩ ⟨⟨hq0, hq1, trivial⟩, ⟨trivial, trivial, trivial, hq2, trivial⟩, ⟨trivial, trivial, trivial, hq3, trivial⟩, trivial, trivial, trivial, trivial⟩ rfl rfl ?_) | with_reducible (first | refine awp_seq ?_ | refine awp_block ?_ | refine awp_skip ?_ | refine awp_exit ?_ | refine awp_ret ?_ | refine athen_normal ?_ | refine athen_ret ?_ | refine athen_exit ?_ | refine ablock_normal ?_ | refine ablock_ret ?_ | refine ablock_here ?_ | refine ablock_far rfl ?_ | (refine hK _ ?_; clear K hK) | refine awp_cond_t rfl ?_ | refine awp_cond_f rfl ?_ | intro hfact) | (with_reducible refine And.intro ?_ ?_; focus (first | assumption | omega | (simp; done) | ((repeat' apply And.intro) <;> first | assumption | omega) | ((repeat' split) <;> omega))) | ((first | with_reducible (first | ((refine awp_seqr TT ?_); intro K hK) | ((refine awp_region TT ?_); intro K hK) | ((refine awp_seqrF TT [] MX (by kernel_rfl) (by kernel_rfl) ?_); intro K hK) | ((refine awp_regionF TT [] MX (by kernel_rfl) (by kernel_rfl) ?_); intro K hK)) | (with_reducible (first | refine guard_split_t TT E (fun hb => ?_) (fun hb => ?_) | refine guard_split_f TT E (fun hb => ?_) (fun hb => ?_) | refine guardD_split_t TT _ _ (fun hb => ?_) (fun hb => ?_) | refine guardD_split_f TT _ _ (fun hb => ?_) (fun hb => ?_)) <;> try simp only [hb]) | ((first | refine callK_pure TT E (toSchema_ok a b hp) rfl rfl ?_ | refine callKD_pure TT _ _ (toSchema_ok a b hp) rfl rfl ?_); intro m hm; try dsimp only at hm) | ((first | refine callK_pure TT E (toExpr_ok k n nm ps he) rfl rfl ?_ | refine callKD_pure TT _ _ (toExpr_ok k n nm ps he) rfl rfl ?_); intro m hm; try dsimp only at hm) | ((first | refine callK_pure TT E (hip) rfl rfl ?_ | refine callKD_pure TT _ _ (hip) rfl rfl ?_); intro m hm; try dsimp only at hm) | ((first | refine callK_pure TT E (heldEx_ok gk gn gnm gps 1 (by omega) (by omega)) rfl rfl ?_ | refine callKD_pure TT _ _ (heldEx_ok gk gn gnm gps 1 (by omega) (by omega)) rfl rfl ?_); intro m hm; try dsimp only at hm) | (refine callK_pureR TT E (szSchema_ok _ _  _ (by first | assumption | omega | (refine (?_ : (0 : Int) ≤ _ → _) ?_ <;> first | assumption | omega) | (simp; done) | (simp; omega)) (by first | assumption | omega | (refine (?_ : (0 : Int) ≤ _ → _) ?_ <;> first | assumption | omega) | (simp; done) | (simp; omega))) rfl ?_; rintro _ m ⟨sz, rfl, hsz1, hsz2, hsz3⟩ hm) | (refine callK_pureR TT E (szExpr_ok _ _ _ _ _ (by first | assumption | omega | (refine (?_ : (0 : Int) ≤ _ → _) ?_ <;> first | assumption | omega) | (simp; done) | (simp; omega)) (by first | assumption | omega | (refine (?_ : (0 : Int) ≤ _ → _) ?_ <;> first | assumption | omega) | (simp; done) | (simp; omega))) rfl ?_; rintro _ m ⟨sz, rfl, hsz1, hsz2, hsz3⟩ hm) | ((first | refine callK_pure TT E (spushN_ok _ _ _ _ _ _ (by first | assumption | omega | (refine (?_ : (0 : Int) ≤ _ → _) ?_ <;> first | assumption | omega) | (simp; done) | (simp; omega))) rfl rfl ?_ | refine callKD_pure TT _ _ (spushN_ok _ _ _ _ _ _ (by first | assumption | omega | (refine (?_ : (0 : Int) ≤ _ → _) ?_ <;> first | assumption | omega) | (simp; done) | (simp; omega))) rfl rfl ?_); intro m hm; try dsimp only at hm) | ((first | refine callK_pure TT E (toSchema_ok _ _ (by first | assumption | omega | (refine (?_ : (0 : Int) ≤ _ → _) ?_ <;> first | assumption | omega) | (simp; done) | (simp; omega))) rfl rfl ?_ | refine callKD_pure TT _ _ (toSchema_ok _ _ (by first | assumption | omega | (refine (?_ : (0 : Int) ≤ _ → _) ?_ <;> first | assumption | omega) | (simp; done) | (simp; omega))) rfl rfl ?_); intro m hm; try dsimp only at hm) | ((first | refine callK_pure TT E (toExpr_ok _ _ _ _ (by first | assumption | omega | (refine (?_ : (0 : Int) ≤ _ → _) ?_ <;> first | assumption | omega) | (simp; done) | (simp; omega))) rfl rfl ?_ | refine callKD_pure TT _ _ (toExpr_ok _ _ _ _ (by first | assumption | omega | (refine (?_ : (0 : Int) ≤ _ → _) ?_ <;> first | assumption | omega) | (simp; done) | (simp; omega))) rfl rfl ?_); intro m hm; try dsimp only at hm) | ((first | refine callK_pure TT E (eqExpr_ok _ _ _ _) rfl rfl ?_ | refine callKD_pure TT _ _ (eqExpr_ok _ _ _ _) rfl rfl ?_); intro m hm; try dsimp only at hm) | ((first | refine callK_pure TT E (eqSchema_ok _ _) rfl rfl ?_ | refine callKD_pure TT _ _ (eqSchema_ok _ _) rfl rfl ?_); intro m hm; try dsimp only at hm) | ((first | refine callK_pure TT E (heldEx_ok _ _ _ _ _ (by first | assumption | omega | (refine (?_ : (0 : Int) ≤ _ → _) ?_ <;> first | assumption | omega) | (simp; done) | (simp; omega)) (by first | assumption | omega | (refine (?_ : (0 : Int) ≤ _ → _) ?_ <;> first | assumption | omega) | (simp; done) | (simp; omega))) rfl rfl ?_ | refine callKD_pure TT _ _ (heldEx_ok _ _ _ _ _ (by first | assumption | omega | (refine (?_ : (0 : Int) ≤ _ → _) ?_ <;> first | assumption | omega) | (simp; done) | (simp; omega)) (by first | assumption | omega | (refine (?_ : (0 : Int) ≤ _ → _) ?_ <;> first | assumption | omega) | (simp; done) | (simp; omega))) rfl rfl ?_); intro m hm; try dsimp only at hm)) <;> simp only [go_sem, ↓reduceIte, Int.reduceBEq, Int.reduceBNe, Nat.reduceEqDiff, Nat.reduceAdd, Nat.reduceMul, Nat.reduceSub, Nat.reduceLT, Nat.reduceBEq, Nat.reduceLeDiff, reduceCtorEq, Int.reduceToNat, Int.reduceNeg, Int.reduceEq, Int.reduceLE, Int.reduceLT, hD0, hD1, hD2, hD3, bne_self_eq_false]) | refine awp_condN rfl (fun hb => ?_) (fun hb => ?_) | refine awp_condP rfl (fun hb => ?_) (fun hb => ?_) | refine awp_cond rfl (fun hb => ?_) (fun hb => ?_)))
  all_goals first | exact QB_ret rfl | (exfalso; simp at *; omega)
end Go.Proofs.Ytdbakncnhmphpaa
