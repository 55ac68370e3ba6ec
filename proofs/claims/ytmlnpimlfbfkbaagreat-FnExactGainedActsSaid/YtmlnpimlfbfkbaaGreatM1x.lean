import Derived.Test.YtmlnpimlfbfkbaaGreatM1
namespace Go.Proofs.YtmlnpimlfbfkbaaGreat
open Go Go.AL
set_option linter.unusedSimpArgs false
set_option linter.unusedVariables false
theorem cQ_eq (t : Request) : cQ t = 3 + cnL cF t.fields := rfl
theorem cQ_nn (t : Request) : 0 ≤ cQ t := by
  have h2 := cnL_nn cF (fun _ => (show (0 : Int) ≤ 3 by decide)) t.fields
  unfold cQ; omega
set_option maxHeartbeats 4000000 in
set_option maxRecDepth 100000 in
theorem markQ_ok (l : List Request) (k : Int) (h0 : 0 ≤ k) (h1 : k + cnL cQ l ≤ 1000000000000000) : MarkF Tryz.prog 52 (LQ l) (LQ (mkL fQ cQ l k)) k (k + cnL cQ l) := by
  refine mark_of_body (rt := 4) Tryz.call52 Tryz.func52 rfl rfl Tryz.ntmps52 (by decide) fun w0 v bs hT => ?_
  simp only [TreeA, TreeV] at hT
  obtain ⟨a, cap, rfl, hcap, hx⟩ := hT
  rw [List.length_map] at *
  rcases hx with ⟨hnil, rfl⟩ | ⟨b, vs, bs', rfl, rfl, hbn, hcell, hsz, hll⟩
  · obtain rfl : l = [] := by simpa using hnil
    (repeat' (first | with_reducible (first | (refine pw_seqrK ?_; intro K hK) | (refine pw_regionK ?_; intro K hK) | (refine pw_seq ?_) | (refine pw_block ?_) | (refine pw_skip ?_) | (refine pw_ret ?_) | (refine pw_exit ?_) | (refine pr_nil ?_) | (refine pq_seq ?_) | (refine pq_then_ret ?_) | (refine pq_then_exit ?_) | (refine pq_block_normal ?_) | (refine pq_block_ret ?_) | (refine pq_block_here ?_) | (refine pq_block_far rfl ?_) | (refine pw_cond_t rfl ?_) | (refine pw_cond_f rfl ?_) | (refine hK _ _ ?_; clear K hK)) | ((first | (refine pr_move rfl (by decide) ?_) | (refine pr_assign rfl (by decide) ?_) | (refine pr_bin rfl rfl rfl (by decide) ?_) | (refine pr_len TT rfl rfl rfl (by decide) ?_) | (refine pr_iaddr TT rfl rfl rfl rfl rfl (by omega) (by omega) (by decide) ?_) | (refine pr_faddr TT rfl rfl rfl rfl (by decide) (by decide) ?_)) <;> (try simp only [DV.zv, Int.toNat_natCast, List.set_cons_zero, List.set_cons_succ]))))
    refine pw_sub (env' := [(0, .slice a 0 cap), (1, .int .i64 k), (5, .int .i64 (0 : Nat))]) (by simp [getP]) (fun w h => h) ?_
    refine pw_loop 0 5 (fun i => [(0, .slice a 0 cap), (1, .int .i64 k), (5, .int .i64 i)]) (fun _ w => w = w0) (fun i => rfl) ⟨rfl, rfl⟩ fun i hi => ?_
    obtain rfl : i = 0 := by omega
    (repeat' (first | with_reducible (first | (refine pw_seqrK ?_; intro K hK) | (refine pw_regionK ?_; intro K hK) | (refine pw_seq ?_) | (refine pw_block ?_) | (refine pw_skip ?_) | (refine pw_ret ?_) | (refine pw_exit ?_) | (refine pr_nil ?_) | (refine pq_seq ?_) | (refine pq_then_ret ?_) | (refine pq_then_exit ?_) | (refine pq_block_normal ?_) | (refine pq_block_ret ?_) | (refine pq_block_here ?_) | (refine pq_block_far rfl ?_) | (refine pw_cond_t rfl ?_) | (refine pw_cond_f rfl ?_) | (refine hK _ _ ?_; clear K hK)) | ((first | (refine pr_move rfl (by decide) ?_) | (refine pr_assign rfl (by decide) ?_) | (refine pr_bin rfl rfl rfl (by decide) ?_) | (refine pr_len TT rfl rfl rfl (by decide) ?_) | (refine pr_iaddr TT rfl rfl rfl rfl rfl (by omega) (by omega) (by decide) ?_) | (refine pr_faddr TT rfl rfl rfl rfl (by decide) (by decide) ?_)) <;> (try simp only [DV.zv, Int.toNat_natCast, List.set_cons_zero, List.set_cons_succ, dec_lt_self]))))
    rintro a w ⟨h2, h3, h4, rfl⟩
    exact ⟨.inr rfl, by rw [h4 4 _ rfl]; simp [cnL], h3, ⟨_, cap, rfl, hcap, .inl ⟨rfl, rfl⟩⟩, FrameW.refl _ _⟩
  · have hM0 : MT w0 (b :: bs') b bs' (mixD encR fQ cQ l k 0) w0 := ⟨vs, hcell, by rw [mixD_0]; exact treeLL_flat.1 hll, hbn, FrameW.refl _ _⟩
    (repeat' (first | with_reducible (first | (refine pw_seqrK ?_; intro K hK) | (refine pw_regionK ?_; intro K hK) | (refine pw_seq ?_) | (refine pw_block ?_) | (refine pw_skip ?_) | (refine pw_ret ?_) | (refine pw_exit ?_) | (refine pr_nil ?_) | (refine pq_seq ?_) | (refine pq_then_ret ?_) | (refine pq_then_exit ?_) | (refine pq_block_normal ?_) | (refine pq_block_ret ?_) | (refine pq_block_here ?_) | (refine pq_block_far rfl ?_) | (refine pw_cond_t rfl ?_) | (refine pw_cond_f rfl ?_) | (refine hK _ _ ?_; clear K hK)) | ((first | (refine pr_move rfl (by decide) ?_) | (refine pr_assign rfl (by decide) ?_) | (refine pr_bin rfl rfl rfl (by decide) ?_) | (refine pr_len TT rfl rfl rfl (by decide) ?_) | (refine pr_iaddr TT rfl rfl rfl rfl rfl (by omega) (by omega) (by decide) ?_) | (refine pr_faddr TT rfl rfl rfl rfl (by decide) (by decide) ?_)) <;> (try simp only [DV.zv, Int.toNat_natCast, List.set_cons_zero, List.set_cons_succ]))))
    refine pw_sub (env' := [(0, .slice (some ⟨b, 0, none⟩) l.length cap), (1, .int .i64 (k + cnL cQ (l.take 0))), (5, .int .i64 (0 : Nat))]) (by simp [getP, cnL]) (M' := MT w0 (b :: bs') b bs' (mixD encR fQ cQ l k 0)) (fun w h => h ▸ hM0) ?_
    refine pw_loop l.length 5 (fun i => [(0, .slice (some ⟨b, 0, none⟩) l.length cap), (1, .int .i64 (k + cnL cQ (l.take i))), (5, .int .i64 i)]) (fun i => MT w0 (b :: bs') b bs' (mixD encR fQ cQ l k i)) (fun i => rfl) ⟨rfl, rfl⟩ fun i hi => ?_
    by_cases hlt : i < l.length
    · obtain ⟨x, rest, hdr⟩ : ∃ x rest, l.drop i = x :: rest := ⟨l[i], l.drop (i + 1), List.drop_eq_getElem_cons hlt⟩
      obtain ⟨pre, post, hp1, hp2, hp3, hp4⟩ := mixD_at encR fQ cQ (sz := 4) (fun _ => rfl) k hdr hi
      have hc0 := cnL_nn cQ cQ_nn (l.take i)
      have hc1 := cnL_split cQ hdr
      have hc2 := cnL_nn cQ cQ_nn rest
      generalize hkk : k + cnL cQ (l.take i) = kk
      have hn2 := cnL_nn cF (fun _ => (show (0 : Int) ≤ 3 by decide)) x.fields
      have hcu := cQ_eq x
      have hkv : k + cnL cQ (l.take (i + 1)) = kk + 1 + 1 + 1 + cnL cF x.fields := by rw [hp4]; rw [cQ_eq]; omega
      rw [cQ_eq] at hc1
      have hw1 : IntKind.i64.wrap (kk + 1) = kk + 1 := wrap_id (by omega)
      have hw2 : IntKind.i64.wrap (kk + 1 + 1) = kk + 1 + 1 := wrap_id (by omega)
      have hw3 : IntKind.i64.wrap (kk + 1 + 1 + 1) = kk + 1 + 1 + 1 := wrap_id (by omega)
      have hwi : IntKind.i64.wrap ((i : Int) + 1) = ((i + 1 : Nat) : Int) := by rw [wrap_id (by omega)]; omega
      have hdi : decide ((i : Int) < (l.length : Int)) = true := by simp; omega
      have hes : (TT.T 39).size = 4 := rfl
      refine pw_weak (M' := MT w0 (b :: bs') b bs' (pre ++ ([.int .i64 x.who, .int .i64 x.act, .int .i64 x.what, .sl 3 (x.fields.map encF) .no] ++ post))) (fun w h => by rw [hp2] at h; exact h) ?_
      (repeat' (first | with_reducible (first | (refine pw_seqrK ?_; intro K hK) | (refine pw_regionK ?_; intro K hK) | (refine pw_seq ?_) | (refine pw_block ?_) | (refine pw_skip ?_) | (refine pw_ret ?_) | (refine pw_exit ?_) | (refine pr_nil ?_) | (refine pq_seq ?_) | (refine pq_then_ret ?_) | (refine pq_then_exit ?_) | (refine pq_block_normal ?_) | (refine pq_block_ret ?_) | (refine pq_block_here ?_) | (refine pq_block_far rfl ?_) | (refine pw_cond_t rfl ?_) | (refine pw_cond_f rfl ?_) | (refine hK _ _ ?_; clear K hK)) | ((first | (refine pr_move rfl (by decide) ?_) | (refine pr_assign rfl (by decide) ?_) | (refine pr_bin rfl rfl rfl (by decide) ?_) | (refine pr_len TT rfl rfl rfl (by decide) ?_) | (refine pr_iaddr TT rfl rfl rfl rfl rfl (by omega) (by omega) (by decide) ?_) | (refine pr_faddr TT rfl rfl rfl rfl (by decide) (by decide) ?_) | (refine pr_store (j := 0) (c := .int .i64 _) TT rfl rfl rfl rfl (by omega) rfl rfl rfl (by simp) ?_) | (refine pr_store (j := 1) (c := .int .i64 _) TT rfl rfl rfl rfl (by omega) rfl rfl rfl (by simp) ?_) | (refine pr_store (j := 2) (c := .int .i64 _) TT rfl rfl rfl rfl (by omega) rfl rfl rfl (by simp) ?_) | (refine pr_inner (j := 3) TT (markF_ok x.fields (kk + 1 + 1 + 1) (by omega) (by omega)) rfl rfl rfl rfl rfl (by omega) rfl (fun z hz => by simp [hz]) (by decide) rfl ?_ rfl rfl)) <;> (try simp only [DV.zv, Int.toNat_natCast, List.set_cons_zero, List.set_cons_succ, hw1, hw2, hw3, hwi, hdi, hes]))))
      refine pq_then fun a w hs => ⟨hlt, hs.sub (by simp [getP, hkv]) (fun w h => ?_)⟩
      show MT _ _ _ _ (mixD encR fQ cQ l k (i + 1)) w
      rw [hp3, hkk]
      exact h
    · obtain rfl : i = l.length := by omega
      (repeat' (first | with_reducible (first | (refine pw_seqrK ?_; intro K hK) | (refine pw_regionK ?_; intro K hK) | (refine pw_seq ?_) | (refine pw_block ?_) | (refine pw_skip ?_) | (refine pw_ret ?_) | (refine pw_exit ?_) | (refine pr_nil ?_) | (refine pq_seq ?_) | (refine pq_then_ret ?_) | (refine pq_then_exit ?_) | (refine pq_block_normal ?_) | (refine pq_block_ret ?_) | (refine pq_block_here ?_) | (refine pq_block_far rfl ?_) | (refine pw_cond_t rfl ?_) | (refine pw_cond_f rfl ?_) | (refine hK _ _ ?_; clear K hK)) | ((first | (refine pr_move rfl (by decide) ?_) | (refine pr_assign rfl (by decide) ?_) | (refine pr_bin rfl rfl rfl (by decide) ?_) | (refine pr_len TT rfl rfl rfl (by decide) ?_) | (refine pr_iaddr TT rfl rfl rfl rfl rfl (by omega) (by omega) (by decide) ?_) | (refine pr_faddr TT rfl rfl rfl rfl (by decide) (by decide) ?_)) <;> (try simp only [DV.zv, Int.toNat_natCast, List.set_cons_zero, List.set_cons_succ, dec_lt_self]))))
      rintro a w ⟨h2, h3, h4, vs', g1, g2, g3, g4⟩
      rw [List.take_length] at h4
      rw [mixD_n] at g2
      refine ⟨.inr rfl, h4 4 _ rfl, h3, ⟨_, cap, by simp [mkL_len], by simpa [mkL_len] using hcap, .inr ⟨b, vs', bs', rfl, rfl, g3, g1, ?_, treeLL_flat.2 g2⟩⟩, g4⟩
      intro x hx
      obtain ⟨y, _, rfl⟩ := List.mem_map.1 hx
      exact (fun _ => rfl) y
theorem heldQ_ok (l : List Request) (k : Int) (H0 : 0 ≤ k) (H1 : k + cnL cQ l ≤ 1000000000000000) : Gives Tryz.prog 53 [LQ (mkL fQ cQ l k), I k] (I (k + cnL cQ l)) := by
  refine q7y TT Tryz.call53 Tryz.func53 rfl (by simp [Tryz.ntmps53]) (by kernel_rfl) fun E hk => ?_
  (repeat' (first | with_reducible (first | refine awp_seq ?_ | refine q7q ?_ | refine q7u ?_ | refine q7v ?_ | refine awp_ret ?_ | refine q7h ?_ | refine q7r ?_ | refine q7l ?_ | refine q7g ?_ | refine q7m ?_ | refine q7i ?_ | refine q7n rfl ?_ | (refine hK _ ?_; clear K hK) | refine q7o rfl ?_ | refine q7p rfl ?_ | intro hfact) | (with_reducible refine And.intro ?_ ?_; focus (first | assumption | omega | (simp; done) | ((repeat' apply And.intro) <;> first | assumption | omega) | ((repeat' split) <;> omega))) | ((first | with_reducible (first | ((refine q7t TT ?_); intro K hK) | ((refine q7k TT ?_); intro K hK) | ((refine q7s TT [] MX (by kernel_rfl) (by kernel_rfl) ?_); intro K hK) | ((refine q7j TT [] MX (by kernel_rfl) (by kernel_rfl) ?_); intro K hK)) | (with_reducible (first | refine q7e TT E (fun hb => ?_) (fun hb => ?_) | refine q7f TT E (fun hb => ?_) (fun hb => ?_) | refine q7c TT _ _ (fun hb => ?_) (fun hb => ?_) | refine q7d TT _ _ (fun hb => ?_) (fun hb => ?_)) <;> try simp only [hb]) | ((first | refine q7b TT E (heldF_ok _ _ (by first | assumption | omega | (refine (?_ : (0 : Int) ≤ _ → _) ?_ <;> first | assumption | omega) | (simp; done) | (simp; omega)) (by first | assumption | omega | (refine (?_ : (0 : Int) ≤ _ → _) ?_ <;> first | assumption | omega) | (simp; done) | (simp; omega))) rfl rfl ?_ | refine q7a TT _ _ (heldF_ok _ _ (by first | assumption | omega | (refine (?_ : (0 : Int) ≤ _ → _) ?_ <;> first | assumption | omega) | (simp; done) | (simp; omega)) (by first | assumption | omega | (refine (?_ : (0 : Int) ≤ _ → _) ?_ <;> first | assumption | omega) | (simp; done) | (simp; omega))) rfl rfl ?_); intro m hm; try dsimp only at hm)) <;> simp only [go_sem, ↓reduceIte, Int.reduceBEq, Int.reduceBNe, Nat.reduceEqDiff, Nat.reduceAdd, Nat.reduceMul, Nat.reduceSub, Nat.reduceLT, Nat.reduceBEq, Nat.reduceLeDiff, reduceCtorEq, Int.reduceToNat, Int.reduceNeg, Int.reduceEq, Int.reduceLE, Int.reduceLT])))
  refine awp_zip (mkL fQ cQ l k) (List.length (mkL fQ cQ l k)) 0 [] [0] (fun j s => [(1, I s.1), (5, I j)]) (fun obs j s => obs) (fun j s => []) (fun j rest s nt => rest = mkL fQ cQ s.2 s.1 ∧ s.1 + cnL cQ s.2 = k + cnL cQ l ∧ 0 ≤ s.1) ((k, l)) (by first | rfl | (simp; done) | (simp; omega)) (by first | rfl | (simp only [go_sem, ↓reduceIte, Nat.reduceEqDiff, Nat.reduceAdd, Nat.reduceLT, Nat.reduceLeDiff, reduceCtorEq]; done) | (simp only [go_sem, ↓reduceIte, Nat.reduceEqDiff, Nat.reduceAdd, Nat.reduceLT, Nat.reduceLeDiff, reduceCtorEq]; simp; done)) (by simp only [go_sem, ↓reduceIte, Nat.reduceEqDiff, Nat.reduceAdd, Nat.reduceLT, Nat.reduceLeDiff, reduceCtorEq]; rfl) (by first | rfl | (simp only [go_sem, ↓reduceIte, Nat.reduceEqDiff, Nat.reduceAdd, Nat.reduceLT, Nat.reduceLeDiff, reduceCtorEq]; rfl)) (⟨rfl, rfl, H0⟩) (by unfold ASubW; simp only [go_sem, ↓reduceIte, Nat.reduceEqDiff, Nat.reduceAdd, Nat.reduceLT, Nat.reduceLeDiff, reduceCtorEq, hk]; try simp) ?_ ?_
  · rintro ⟨kk, r⟩ nt hmax ⟨h1, h2, h3⟩
    cases r with
    | cons y r => simp [mkL] at h1
    | nil =>
      (repeat' (first | with_reducible (first | refine awp_seq ?_ | refine q7q ?_ | refine q7u ?_ | refine q7v ?_ | refine awp_ret ?_ | refine q7h ?_ | refine q7r ?_ | refine q7l ?_ | refine q7g ?_ | refine q7m ?_ | refine q7i ?_ | refine q7n rfl ?_ | (refine hK _ ?_; clear K hK) | refine q7o rfl ?_ | refine q7p rfl ?_ | intro hfact) | (with_reducible refine And.intro ?_ ?_; focus (first | assumption | omega | (simp; done) | ((repeat' apply And.intro) <;> first | assumption | omega) | ((repeat' split) <;> omega))) | ((first | with_reducible (first | ((refine q7t TT ?_); intro K hK) | ((refine q7k TT ?_); intro K hK) | ((refine q7s TT [] MX (by kernel_rfl) (by kernel_rfl) ?_); intro K hK) | ((refine q7j TT [] MX (by kernel_rfl) (by kernel_rfl) ?_); intro K hK)) | (with_reducible (first | refine q7e TT E (fun hb => ?_) (fun hb => ?_) | refine q7f TT E (fun hb => ?_) (fun hb => ?_) | refine q7c TT _ _ (fun hb => ?_) (fun hb => ?_) | refine q7d TT _ _ (fun hb => ?_) (fun hb => ?_)) <;> try simp only [hb]) | ((first | refine q7b TT E (heldF_ok _ _ (by first | assumption | omega | (refine (?_ : (0 : Int) ≤ _ → _) ?_ <;> first | assumption | omega) | (simp; done) | (simp; omega)) (by first | assumption | omega | (refine (?_ : (0 : Int) ≤ _ → _) ?_ <;> first | assumption | omega) | (simp; done) | (simp; omega))) rfl rfl ?_ | refine q7a TT _ _ (heldF_ok _ _ (by first | assumption | omega | (refine (?_ : (0 : Int) ≤ _ → _) ?_ <;> first | assumption | omega) | (simp; done) | (simp; omega)) (by first | assumption | omega | (refine (?_ : (0 : Int) ≤ _ → _) ?_ <;> first | assumption | omega) | (simp; done) | (simp; omega))) rfl rfl ?_); intro m hm; try dsimp only at hm)) <;> simp only [go_sem, ↓reduceIte, Int.reduceBEq, Int.reduceBNe, Nat.reduceEqDiff, Nat.reduceAdd, Nat.reduceMul, Nat.reduceSub, Nat.reduceLT, Nat.reduceBEq, Nat.reduceLeDiff, reduceCtorEq, Int.reduceToNat, Int.reduceNeg, Int.reduceEq, Int.reduceLE, Int.reduceLT])))
      refine q7x TT (by simp only [go_sem, ↓reduceIte, Nat.reduceEqDiff, Nat.reduceAdd, Nat.reduceLT, Nat.reduceLeDiff, reduceCtorEq, Tryz.results53]; rfl) rfl ?_; simp only [resV, cnL] at *; rw [← h2]; simp
  · rintro j x rest ⟨kk, r⟩ nt hA ⟨h1, h2, h3⟩
    cases r with
    | nil => simp [mkL] at h1
    | cons y r =>
      simp only [mkL, List.cons.injEq] at h1
      obtain ⟨hxx, hrest⟩ := h1
      rw [hxx] at hA
      simp only [cnL] at h2; rw [cQ_eq] at h2
      dsimp only at h3
      have hn2 := cnL_nn cF (fun _ => (show (0 : Int) ≤ 3 by decide)) y.fields
      have hcu := cQ_eq y
      have hcr := cnL_nn cQ cQ_nn r
      have hw1 : IntKind.i64.wrap (kk + 1) = kk + 1 := wrap_id (by omega)
      have hw2 : IntKind.i64.wrap (kk + 1 + 1) = kk + 1 + 1 := wrap_id (by omega)
      have hw3 : IntKind.i64.wrap (kk + 1 + 1 + 1) = kk + 1 + 1 + 1 := wrap_id (by omega)
      (repeat' (first | with_reducible (first | refine awp_seq ?_ | refine q7q ?_ | refine q7u ?_ | refine q7v ?_ | refine awp_ret ?_ | refine q7h ?_ | refine q7r ?_ | refine q7l ?_ | refine q7g ?_ | refine q7m ?_ | refine q7i ?_ | refine q7n rfl ?_ | (refine hK _ ?_; clear K hK) | refine q7o rfl ?_ | refine q7p rfl ?_ | intro hfact) | (with_reducible refine And.intro ?_ ?_; focus (first | assumption | omega | (simp; done) | ((repeat' apply And.intro) <;> first | assumption | omega) | ((repeat' split) <;> omega))) | ((first | with_reducible (first | ((refine q7t TT ?_); intro K hK) | ((refine q7k TT ?_); intro K hK) | ((refine q7s TT [] MX (by kernel_rfl) (by kernel_rfl) ?_); intro K hK) | ((refine q7j TT [] MX (by kernel_rfl) (by kernel_rfl) ?_); intro K hK)) | (with_reducible (first | refine q7e TT E (fun hb => ?_) (fun hb => ?_) | refine q7f TT E (fun hb => ?_) (fun hb => ?_) | refine q7c TT _ _ (fun hb => ?_) (fun hb => ?_) | refine q7d TT _ _ (fun hb => ?_) (fun hb => ?_)) <;> try simp only [hb]) | ((first | refine q7b TT E (mtext_ok _ (by omega)) rfl rfl ?_ | refine q7a TT _ _ (mtext_ok _ (by omega)) rfl rfl ?_); intro m hm; try dsimp only at hm) | ((first | refine q7b TT E (heldF_ok _ _ (by omega) (by omega)) rfl rfl ?_ | refine q7a TT _ _ (heldF_ok _ _ (by omega) (by omega)) rfl rfl ?_); intro m hm; try dsimp only at hm)) <;> simp only [go_sem, ↓reduceIte, Int.reduceBEq, Int.reduceBNe, Nat.reduceEqDiff, Nat.reduceAdd, Nat.reduceMul, Nat.reduceSub, Nat.reduceLT, Nat.reduceBEq, Nat.reduceLeDiff, reduceCtorEq, Int.reduceToNat, Int.reduceNeg, Int.reduceEq, Int.reduceLE, Int.reduceLT, hA.d, hA.w, hA.lt, hA.g, encR, fQ, hw1, hw2, hw3, ]) | refine q7z rfl (fun hb => ?_) (fun hb => ?_) | refine q8a rfl (fun hb => ?_) (fun hb => ?_) | refine awp_cond rfl (fun hb => ?_) (fun hb => ?_)))
      all_goals first | (exfalso; omega) | skip
      refine ⟨(kk + 1 + 1 + 1 + cnL cF y.fields, r), ⟨by rw [hrest]; (first | rfl | (rw [cQ_eq]; congr 1; omega)), by dsimp only; omega, by dsimp only; omega⟩, (by unfold ASubW; simp only [go_sem, ↓reduceIte, Nat.reduceEqDiff, Nat.reduceAdd, Nat.reduceLT, Nat.reduceLeDiff, reduceCtorEq, hk]; try simp)⟩
end Go.Proofs.YtmlnpimlfbfkbaaGreat
