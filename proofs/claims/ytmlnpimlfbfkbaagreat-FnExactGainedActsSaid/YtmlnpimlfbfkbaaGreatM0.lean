/- Walks of functions of the cut by the abstract logic, and what they compute. Filled by a program of mine from a template. -/
import Derived.Test.YtmlnpimlfbfkbaaGreatF0
import Derived.Test.YtmlnpimlfbfkbaaGreatCoreE
namespace Go.Proofs.YtmlnpimlfbfkbaaGreat
open Go Go.AL
set_option linter.unusedSimpArgs false
set_option linter.unusedVariables false
/-! ### Marks: a text for every number -/
def dstep (k : Int) : UInt8 := UInt8.ofNat (IntKind.u8.wrap (IntKind.i64.wrap (48 + k.tmod 10))).toNat
def dig (k : Int) (out : List UInt8) : List UInt8 := if h : 0 < k then dig (k.tdiv 10) (dstep k :: out) else out
termination_by k.toNat
decreasing_by
  have : k.tdiv 10 < k := by rw [Int.tdiv_eq_ediv_of_nonneg (by omega)]; omega
  omega
def mtx (k : Int) : List UInt8 := if k ≤ 0 then [109, 48] else 109 :: dig k []
theorem tdiv10 {k : Int} (h : 0 < k) : 0 ≤ k.tdiv 10 ∧ k.tdiv 10 < k := by
  rw [Int.tdiv_eq_ediv_of_nonneg (by omega)]; omega
theorem dig_len (m : Nat) : ∀ (k : Int) (out : List UInt8), k.toNat ≤ m → (dig k out).length ≤ out.length + k.toNat := by
  induction m with
  | zero => intro k out h; rw [dig]; split <;> simp_all <;> omega
  | succ m ih =>
    intro k out h
    rw [dig]
    split
    · rename_i hk
      have := tdiv10 hk
      have h2 := ih (k.tdiv 10) (dstep k :: out) (by omega)
      simp only [List.length_cons] at h2
      omega
    · omega
theorem mtx_len {k : Int} (h : k ≤ 1000000000000000) : (mtx k).length ≤ 9223372036854775807 := by
  unfold mtx
  split
  · simp
  · have := dig_len k.toNat k [] (Nat.le_refl _)
    simp only [List.length_cons, List.length_nil] at *
    omega
theorem mtext_ok (k : Int) (Hk : k ≤ 1000000000000000) : Gives Tryz.prog 72 [I k] (S (mtx k)) := by
  refine q7y TT Tryz.call72 Tryz.func72 rfl (by simp [Tryz.ntmps72]) (by kernel_rfl) fun E hk => ?_
  (repeat' (first | with_reducible (first | refine awp_seq ?_ | refine q7q ?_ | refine q7u ?_ | refine q7v ?_ | refine awp_ret ?_ | refine q7h ?_ | refine q7r ?_ | refine q7l ?_ | refine q7g ?_ | refine q7m ?_ | refine q7i ?_ | refine q7n rfl ?_ | (refine hK _ ?_; clear K hK) | refine q7o rfl ?_ | refine q7p rfl ?_ | intro hfact) | (with_reducible refine And.intro ?_ ?_; focus (first | assumption | omega | (simp; done) | ((repeat' apply And.intro) <;> first | assumption | omega) | ((repeat' split) <;> omega))) | ((first | with_reducible (first | ((refine q7t TT ?_); intro K hK) | ((refine q7k TT ?_); intro K hK) | ((refine q7s TT [] MX (by kernel_rfl) (by kernel_rfl) ?_); intro K hK) | ((refine q7j TT [] MX (by kernel_rfl) (by kernel_rfl) ?_); intro K hK)) | (with_reducible (first | refine q7e TT E (fun hb => ?_) (fun hb => ?_) | refine q7f TT E (fun hb => ?_) (fun hb => ?_) | refine q7c TT _ _ (fun hb => ?_) (fun hb => ?_) | refine q7d TT _ _ (fun hb => ?_) (fun hb => ?_)) <;> try simp only [hb])) <;> simp only [go_sem, ↓reduceIte, Int.reduceBEq, Int.reduceBNe, Nat.reduceEqDiff, Nat.reduceAdd, Nat.reduceMul, Nat.reduceSub, Nat.reduceLT, Nat.reduceBEq, Nat.reduceLeDiff, reduceCtorEq, Int.reduceToNat, Int.reduceNeg, Int.reduceEq, Int.reduceLE, Int.reduceLT]) | refine q7z rfl (fun hb => ?_) (fun hb => ?_) | refine q8a rfl (fun hb => ?_) (fun hb => ?_) | refine awp_cond rfl (fun hb => ?_) (fun hb => ?_)))
  · refine q7x TT (by simp only [go_sem, ↓reduceIte, Nat.reduceEqDiff, Nat.reduceAdd, Nat.reduceLT, Nat.reduceLeDiff, reduceCtorEq, Tryz.results72]; rfl) rfl ?_; simp [resV, mtx, hb]
  refine awp_lp [] (fun (s : Int × List UInt8) => [(0, I s.1), (3, S s.2)]) (fun obs (s : Int × List UInt8) => obs) (fun (s : Int × List UInt8) => []) (fun (s : Int × List UInt8) nt => 0 ≤ s.1 ∧ s.1 ≤ k ∧ (s.2.length : Int) + s.1 ≤ 1000000000000000 ∧ dig s.1 s.2 = dig k []) (fun (s : Int × List UInt8) => s.1.toNat) ((k, [])) (by simp only [go_sem, ↓reduceIte, Nat.reduceEqDiff, Nat.reduceAdd, Nat.reduceLT, Nat.reduceLeDiff, reduceCtorEq]; rfl) (by first | rfl | (simp only [go_sem, ↓reduceIte, Nat.reduceEqDiff, Nat.reduceAdd, Nat.reduceLT, Nat.reduceLeDiff, reduceCtorEq]; rfl)) (⟨by omega, by simp, by simpa using Hk, rfl⟩) (by unfold ASubW; simp only [go_sem, ↓reduceIte, Nat.reduceEqDiff, Nat.reduceAdd, Nat.reduceLT, Nat.reduceLeDiff, reduceCtorEq, hk]; try simp) ?_
  rintro ⟨q, out⟩ nt ⟨h1, h2, h3, h4⟩
  dsimp only at *
  by_cases hq : 0 < q
  · have hd := tdiv10 hq
    have hw : IntKind.i64.wrap (q.tdiv 10) = q.tdiv 10 := wrap_id (by omega)
    have hc : decide (0 < q) = true := by simpa using hq
    have hds : dig q out = dig (q.tdiv 10) (dstep q :: out) := by rw [dig, dif_pos hq]
    (repeat' (first | with_reducible (first | refine awp_seq ?_ | refine q7q ?_ | refine q7u ?_ | refine q7v ?_ | refine awp_ret ?_ | refine q7h ?_ | refine q7r ?_ | refine q7l ?_ | refine q7g ?_ | refine q7m ?_ | refine q7i ?_ | refine q7n rfl ?_ | (refine hK _ ?_; clear K hK) | refine q7o rfl ?_ | refine q7p rfl ?_ | intro hfact) | (with_reducible refine And.intro ?_ ?_; focus (first | assumption | omega | (simp; done) | ((repeat' apply And.intro) <;> first | assumption | omega) | ((repeat' split) <;> omega))) | ((first | with_reducible (first | ((refine q7t TT ?_); intro K hK) | ((refine q7k TT ?_); intro K hK) | ((refine q7s TT [] MX (by kernel_rfl) (by kernel_rfl) ?_); intro K hK) | ((refine q7j TT [] MX (by kernel_rfl) (by kernel_rfl) ?_); intro K hK)) | (with_reducible (first | refine q7e TT E (fun hb => ?_) (fun hb => ?_) | refine q7f TT E (fun hb => ?_) (fun hb => ?_) | refine q7c TT _ _ (fun hb => ?_) (fun hb => ?_) | refine q7d TT _ _ (fun hb => ?_) (fun hb => ?_)) <;> try simp only [hb])) <;> simp only [go_sem, ↓reduceIte, Int.reduceBEq, Int.reduceBNe, Nat.reduceEqDiff, Nat.reduceAdd, Nat.reduceMul, Nat.reduceSub, Nat.reduceLT, Nat.reduceBEq, Nat.reduceLeDiff, reduceCtorEq, Int.reduceToNat, Int.reduceNeg, Int.reduceEq, Int.reduceLE, Int.reduceLT, hw, hc]) | refine q7z rfl (fun hb => ?_) (fun hb => ?_) | refine q8a rfl (fun hb => ?_) (fun hb => ?_) | refine awp_cond rfl (fun hb => ?_) (fun hb => ?_)))
    refine ⟨(q.tdiv 10, dstep q :: out), ⟨by omega, by omega, by simp; omega, by rw [← h4, hds]⟩, by dsimp only; omega, (by unfold ASubW; simp only [go_sem, ↓reduceIte, Nat.reduceEqDiff, Nat.reduceAdd, Nat.reduceLT, Nat.reduceLeDiff, reduceCtorEq, hk, dstep]; try simp)⟩
  · have hc : decide (0 < q) = false := by simpa using hq
    have hds : dig q out = out := by rw [dig, dif_neg hq]
    (repeat' (first | with_reducible (first | refine awp_seq ?_ | refine q7q ?_ | refine q7u ?_ | refine q7v ?_ | refine awp_ret ?_ | refine q7h ?_ | refine q7r ?_ | refine q7l ?_ | refine q7g ?_ | refine q7m ?_ | refine q7i ?_ | refine q7n rfl ?_ | (refine hK _ ?_; clear K hK) | refine q7o rfl ?_ | refine q7p rfl ?_ | intro hfact) | (with_reducible refine And.intro ?_ ?_; focus (first | assumption | omega | (simp; done) | ((repeat' apply And.intro) <;> first | assumption | omega) | ((repeat' split) <;> omega))) | ((first | with_reducible (first | ((refine q7t TT ?_); intro K hK) | ((refine q7k TT ?_); intro K hK) | ((refine q7s TT [] MX (by kernel_rfl) (by kernel_rfl) ?_); intro K hK) | ((refine q7j TT [] MX (by kernel_rfl) (by kernel_rfl) ?_); intro K hK)) | (with_reducible (first | refine q7e TT E (fun hb => ?_) (fun hb => ?_) | refine q7f TT E (fun hb => ?_) (fun hb => ?_) | refine q7c TT _ _ (fun hb => ?_) (fun hb => ?_) | refine q7d TT _ _ (fun hb => ?_) (fun hb => ?_)) <;> try simp only [hb])) <;> simp only [go_sem, ↓reduceIte, Int.reduceBEq, Int.reduceBNe, Nat.reduceEqDiff, Nat.reduceAdd, Nat.reduceMul, Nat.reduceSub, Nat.reduceLT, Nat.reduceBEq, Nat.reduceLeDiff, reduceCtorEq, Int.reduceToNat, Int.reduceNeg, Int.reduceEq, Int.reduceLE, Int.reduceLT, hc]) | refine q7z rfl (fun hb => ?_) (fun hb => ?_) | refine q8a rfl (fun hb => ?_) (fun hb => ?_) | refine awp_cond rfl (fun hb => ?_) (fun hb => ?_)))
    refine q7x TT (by simp only [go_sem, ↓reduceIte, Nat.reduceEqDiff, Nat.reduceAdd, Nat.reduceLT, Nat.reduceLeDiff, reduceCtorEq, Tryz.results72]; rfl) rfl ?_; simp only [resV]; rw [mtx, if_neg hb, ← h4, hds]
/-! ### Fields, numbers and texts -/
def fF (_ : Field) (k : Int) : Field := ⟨mtx k, k + 1, k + 1 + 1⟩
def cF (_ : Field) : Int := 3
def fS (_ : List UInt8) (k : Int) : List UInt8 := mtx k
def cS (_ : List UInt8) : Int := 1
def fI (_ : Int) (k : Int) : Int := k
def cI (_ : Int) : Int := 1
set_option maxHeartbeats 4000000 in
set_option maxRecDepth 100000 in
theorem markF_ok (l : List Field) (k : Int) (h0 : 0 ≤ k) (h1 : k + cnL cF l ≤ 1000000000000000) : MarkF Tryz.prog 38 (LF l) (LF (mkL fF cF l k)) k (k + cnL cF l) := by
  refine mark_of_body (rt := 4) Tryz.call38 Tryz.func38 rfl rfl Tryz.ntmps38 (by decide) fun w0 v bs hT => ?_
  simp only [TreeA, TreeV] at hT
  obtain ⟨a, cap, rfl, hcap, hx⟩ := hT
  rw [List.length_map] at *
  rcases hx with ⟨hnil, rfl⟩ | ⟨b, vs, bs', rfl, rfl, hbn, hcell, hsz, hll⟩
  · obtain rfl : l = [] := by simpa using hnil
    (repeat' (first | with_reducible (first | (refine pw_seqrK ?_; intro K hK) | (refine pw_regionK ?_; intro K hK) | (refine pw_seq ?_) | (refine pw_block ?_) | (refine pw_skip ?_) | (refine pw_ret ?_) | (refine pw_exit ?_) | (refine pr_nil ?_) | (refine pq_seq ?_) | (refine pq_then_ret ?_) | (refine pq_then_exit ?_) | (refine pq_block_normal ?_) | (refine pq_block_ret ?_) | (refine pq_block_here ?_) | (refine pq_block_far rfl ?_) | (refine pw_cond_t rfl ?_) | (refine pw_cond_f rfl ?_) | (refine hK _ _ ?_; clear K hK)) | ((first | (refine pr_move rfl (by decide) ?_) | (refine pr_assign rfl (by decide) ?_) | (refine pr_bin rfl rfl rfl (by decide) ?_) | (refine pr_len TT rfl rfl rfl (by decide) ?_) | (refine pr_iaddr TT rfl rfl rfl rfl rfl (by omega) (by omega) (by decide) ?_) | (refine pr_faddr TT rfl rfl rfl rfl (by decide) (by decide) ?_)) <;> (try simp only [DV.zv, Int.toNat_natCast, List.set_cons_zero, List.set_cons_succ]))))
    refine pw_sub (env' := [(0, .slice a 0 cap), (1, .int .i64 k), (5, .int .i64 (0 : Nat))]) (by simp [getP]) (fun w h => h) ?_
    refine pw_loop 0 5 (fun i => [(0, .slice a 0 cap), (1, .int .i64 k), (5, .int .i64 i)]) (fun _ w => w = w0) (fun i => rfl) ⟨rfl, rfl⟩ fun i hi => ?_
    obtain rfl : i = 0 := by omega
    (repeat' (first | with_reducible (first | (refine pw_seqrK ?_; intro K hK) | (refine pw_regionK ?_; intro K hK) | (refine pw_seq ?_) | (refine pw_block ?_) | (refine pw_skip ?_) | (refine pw_ret ?_) | (refine pw_exit ?_) | (refine pr_nil ?_) | (refine pq_seq ?_) | (refine pq_then_ret ?_) | (refine pq_then_exit ?_) | (refine pq_block_normal ?_) | (refine pq_block_ret ?_) | (refine pq_block_here ?_) | (refine pq_block_far rfl ?_) | (refine pw_cond_t rfl ?_) | (refine pw_cond_f rfl ?_) | (refine hK _ _ ?_; clear K hK)) | ((first | (refine pr_move rfl (by decide) ?_) | (refine pr_assign rfl (by decide) ?_) | (refine pr_bin rfl rfl rfl (by decide) ?_) | (refine pr_len TT rfl rfl rfl (by decide) ?_) | (refine pr_iaddr TT rfl rfl rfl rfl rfl (by omega) (by omega) (by decide) ?_) | (refine pr_faddr TT rfl rfl rfl rfl (by decide) (by decide) ?_)) <;> (try simp only [DV.zv, Int.toNat_natCast, List.set_cons_zero, List.set_cons_succ, dec_lt_self]))))
    rintro a w ⟨h2, h3, h4, rfl⟩
    exact ⟨.inr rfl, by rw [h4 4 _ rfl]; simp [cnL], h3, ⟨_, cap, rfl, hcap, .inl ⟨rfl, rfl⟩⟩, FrameW.refl _ _⟩
  · have hM0 : MT w0 (b :: bs') b bs' (mixD encF fF cF l k 0) w0 := ⟨vs, hcell, by rw [mixD_0]; exact treeLL_flat.1 hll, hbn, FrameW.refl _ _⟩
    (repeat' (first | with_reducible (first | (refine pw_seqrK ?_; intro K hK) | (refine pw_regionK ?_; intro K hK) | (refine pw_seq ?_) | (refine pw_block ?_) | (refine pw_skip ?_) | (refine pw_ret ?_) | (refine pw_exit ?_) | (refine pr_nil ?_) | (refine pq_seq ?_) | (refine pq_then_ret ?_) | (refine pq_then_exit ?_) | (refine pq_block_normal ?_) | (refine pq_block_ret ?_) | (refine pq_block_here ?_) | (refine pq_block_far rfl ?_) | (refine pw_cond_t rfl ?_) | (refine pw_cond_f rfl ?_) | (refine hK _ _ ?_; clear K hK)) | ((first | (refine pr_move rfl (by decide) ?_) | (refine pr_assign rfl (by decide) ?_) | (refine pr_bin rfl rfl rfl (by decide) ?_) | (refine pr_len TT rfl rfl rfl (by decide) ?_) | (refine pr_iaddr TT rfl rfl rfl rfl rfl (by omega) (by omega) (by decide) ?_) | (refine pr_faddr TT rfl rfl rfl rfl (by decide) (by decide) ?_)) <;> (try simp only [DV.zv, Int.toNat_natCast, List.set_cons_zero, List.set_cons_succ]))))
    refine pw_sub (env' := [(0, .slice (some ⟨b, 0, none⟩) l.length cap), (1, .int .i64 (k + cnL cF (l.take 0))), (5, .int .i64 (0 : Nat))]) (by simp [getP, cnL]) (M' := MT w0 (b :: bs') b bs' (mixD encF fF cF l k 0)) (fun w h => h ▸ hM0) ?_
    refine pw_loop l.length 5 (fun i => [(0, .slice (some ⟨b, 0, none⟩) l.length cap), (1, .int .i64 (k + cnL cF (l.take i))), (5, .int .i64 i)]) (fun i => MT w0 (b :: bs') b bs' (mixD encF fF cF l k i)) (fun i => rfl) ⟨rfl, rfl⟩ fun i hi => ?_
    by_cases hlt : i < l.length
    · obtain ⟨x, rest, hdr⟩ : ∃ x rest, l.drop i = x :: rest := ⟨l[i], l.drop (i + 1), List.drop_eq_getElem_cons hlt⟩
      obtain ⟨pre, post, hp1, hp2, hp3, hp4⟩ := mixD_at encF fF cF (sz := 3) (fun _ => rfl) k hdr hi
      have hc0 := cnL_nn cF (fun _ => (show (0 : Int) ≤ 3 by decide)) (l.take i)
      have hc1 := cnL_split cF hdr
      have hc2 := cnL_nn cF (fun _ => (show (0 : Int) ≤ 3 by decide)) rest
      generalize hkk : k + cnL cF (l.take i) = kk
      have hkv : k + cnL cF (l.take (i + 1)) = kk + 1 + 1 + 1 := by rw [hp4]; simp only [cF]; omega
      simp only [cF] at hc1
      have hw1 : IntKind.i64.wrap (kk + 1) = kk + 1 := wrap_id (by omega)
      have hw2 : IntKind.i64.wrap (kk + 1 + 1) = kk + 1 + 1 := wrap_id (by omega)
      have hw3 : IntKind.i64.wrap (kk + 1 + 1 + 1) = kk + 1 + 1 + 1 := wrap_id (by omega)
      have hwi : IntKind.i64.wrap ((i : Int) + 1) = ((i + 1 : Nat) : Int) := by rw [wrap_id (by omega)]; omega
      have hdi : decide ((i : Int) < (l.length : Int)) = true := by simp; omega
      have hes : (TT.T 114).size = 3 := rfl
      refine pw_weak (M' := MT w0 (b :: bs') b bs' (pre ++ ([.str x.name, .int .i64 x.kind, .int .i64 x.number] ++ post))) (fun w h => by rw [hp2] at h; exact h) ?_
      (repeat' (first | with_reducible (first | (refine pw_seqrK ?_; intro K hK) | (refine pw_regionK ?_; intro K hK) | (refine pw_seq ?_) | (refine pw_block ?_) | (refine pw_skip ?_) | (refine pw_ret ?_) | (refine pw_exit ?_) | (refine pr_nil ?_) | (refine pq_seq ?_) | (refine pq_then_ret ?_) | (refine pq_then_exit ?_) | (refine pq_block_normal ?_) | (refine pq_block_ret ?_) | (refine pq_block_here ?_) | (refine pq_block_far rfl ?_) | (refine pw_cond_t rfl ?_) | (refine pw_cond_f rfl ?_) | (refine hK _ _ ?_; clear K hK)) | ((first | (refine pr_move rfl (by decide) ?_) | (refine pr_assign rfl (by decide) ?_) | (refine pr_bin rfl rfl rfl (by decide) ?_) | (refine pr_len TT rfl rfl rfl (by decide) ?_) | (refine pr_iaddr TT rfl rfl rfl rfl rfl (by omega) (by omega) (by decide) ?_) | (refine pr_faddr TT rfl rfl rfl rfl (by decide) (by decide) ?_) | (refine pr_store (j := 0) (c := .str (mtx _)) TT rfl rfl rfl rfl (by omega) rfl rfl ⟨rfl, mtx_len (by omega)⟩ (by simp) ?_) | (refine pr_store (j := 1) (c := .int .i64 _) TT rfl rfl rfl rfl (by omega) rfl rfl rfl (by simp) ?_) | (refine pr_store (j := 2) (c := .int .i64 _) TT rfl rfl rfl rfl (by omega) rfl rfl rfl (by simp) ?_) | (refine pr_pure (args := [_]) (mtext_ok _ (by omega)) rfl (mrep1 _) (mrepS _) (fun w w' hF h => MT.ext hF h) (by decide) ?_)) <;> (try simp only [DV.zv, Int.toNat_natCast, List.set_cons_zero, List.set_cons_succ, hw1, hw2, hw3, hwi, hdi, hes]))))
      refine pq_then fun a w hs => ⟨hlt, hs.sub (by simp [getP, hkv]) (fun w h => ?_)⟩
      show MT _ _ _ _ (mixD encF fF cF l k (i + 1)) w
      rw [hp3, hkk]
      exact h
    · obtain rfl : i = l.length := by omega
      (repeat' (first | with_reducible (first | (refine pw_seqrK ?_; intro K hK) | (refine pw_regionK ?_; intro K hK) | (refine pw_seq ?_) | (refine pw_block ?_) | (refine pw_skip ?_) | (refine pw_ret ?_) | (refine pw_exit ?_) | (refine pr_nil ?_) | (refine pq_seq ?_) | (refine pq_then_ret ?_) | (refine pq_then_exit ?_) | (refine pq_block_normal ?_) | (refine pq_block_ret ?_) | (refine pq_block_here ?_) | (refine pq_block_far rfl ?_) | (refine pw_cond_t rfl ?_) | (refine pw_cond_f rfl ?_) | (refine hK _ _ ?_; clear K hK)) | ((first | (refine pr_move rfl (by decide) ?_) | (refine pr_assign rfl (by decide) ?_) | (refine pr_bin rfl rfl rfl (by decide) ?_) | (refine pr_len TT rfl rfl rfl (by decide) ?_) | (refine pr_iaddr TT rfl rfl rfl rfl rfl (by omega) (by omega) (by decide) ?_) | (refine pr_faddr TT rfl rfl rfl rfl (by decide) (by decide) ?_)) <;> (try simp only [DV.zv, Int.toNat_natCast, List.set_cons_zero, List.set_cons_succ, dec_lt_self]))))
      rintro a w ⟨h2, h3, h4, vs', g1, g2, g3, g4⟩
      rw [List.take_length] at h4
      rw [mixD_n] at g2
      refine ⟨.inr rfl, h4 4 _ rfl, h3, ⟨_, cap, by simp [mkL_len], by simpa [mkL_len] using hcap, .inr ⟨b, vs', bs', rfl, rfl, g3, g1, ?_, treeLL_flat.2 g2⟩⟩, g4⟩
      intro x hx
      obtain ⟨y, _, rfl⟩ := List.mem_map.1 hx
      exact (fun _ => rfl) y
theorem heldF_ok (l : List Field) (k : Int) (H0 : 0 ≤ k) (H1 : k + cnL cF l ≤ 1000000000000000) : Gives Tryz.prog 82 [LF (mkL fF cF l k), I k] (I (k + cnL cF l)) := by
  refine q7y TT Tryz.call82 Tryz.func82 rfl (by simp [Tryz.ntmps82]) (by kernel_rfl) fun E hk => ?_
  (repeat' (first | with_reducible (first | refine awp_seq ?_ | refine q7q ?_ | refine q7u ?_ | refine q7v ?_ | refine awp_ret ?_ | refine q7h ?_ | refine q7r ?_ | refine q7l ?_ | refine q7g ?_ | refine q7m ?_ | refine q7i ?_ | refine q7n rfl ?_ | (refine hK _ ?_; clear K hK) | refine q7o rfl ?_ | refine q7p rfl ?_ | intro hfact) | (with_reducible refine And.intro ?_ ?_; focus (first | assumption | omega | (simp; done) | ((repeat' apply And.intro) <;> first | assumption | omega) | ((repeat' split) <;> omega))) | ((first | with_reducible (first | ((refine q7t TT ?_); intro K hK) | ((refine q7k TT ?_); intro K hK) | ((refine q7s TT [] MX (by kernel_rfl) (by kernel_rfl) ?_); intro K hK) | ((refine q7j TT [] MX (by kernel_rfl) (by kernel_rfl) ?_); intro K hK)) | (with_reducible (first | refine q7e TT E (fun hb => ?_) (fun hb => ?_) | refine q7f TT E (fun hb => ?_) (fun hb => ?_) | refine q7c TT _ _ (fun hb => ?_) (fun hb => ?_) | refine q7d TT _ _ (fun hb => ?_) (fun hb => ?_)) <;> try simp only [hb]) | ((first | refine q7b TT E (mtext_ok _ (by first | assumption | omega | (refine (?_ : (0 : Int) ≤ _ → _) ?_ <;> first | assumption | omega) | (simp; done) | (simp; omega))) rfl rfl ?_ | refine q7a TT _ _ (mtext_ok _ (by first | assumption | omega | (refine (?_ : (0 : Int) ≤ _ → _) ?_ <;> first | assumption | omega) | (simp; done) | (simp; omega))) rfl rfl ?_); intro m hm; try dsimp only at hm)) <;> simp only [go_sem, ↓reduceIte, Int.reduceBEq, Int.reduceBNe, Nat.reduceEqDiff, Nat.reduceAdd, Nat.reduceMul, Nat.reduceSub, Nat.reduceLT, Nat.reduceBEq, Nat.reduceLeDiff, reduceCtorEq, Int.reduceToNat, Int.reduceNeg, Int.reduceEq, Int.reduceLE, Int.reduceLT])))
  refine awp_zip (mkL fF cF l k) (List.length (mkL fF cF l k)) 0 [] [0] (fun j s => [(1, I s.1), (5, I j)]) (fun obs j s => obs) (fun j s => []) (fun j rest s nt => rest = mkL fF cF s.2 s.1 ∧ s.1 + cnL cF s.2 = k + cnL cF l ∧ 0 ≤ s.1) ((k, l)) (by first | rfl | (simp; done) | (simp; omega)) (by first | rfl | (simp only [go_sem, ↓reduceIte, Nat.reduceEqDiff, Nat.reduceAdd, Nat.reduceLT, Nat.reduceLeDiff, reduceCtorEq]; done) | (simp only [go_sem, ↓reduceIte, Nat.reduceEqDiff, Nat.reduceAdd, Nat.reduceLT, Nat.reduceLeDiff, reduceCtorEq]; simp; done)) (by simp only [go_sem, ↓reduceIte, Nat.reduceEqDiff, Nat.reduceAdd, Nat.reduceLT, Nat.reduceLeDiff, reduceCtorEq]; rfl) (by first | rfl | (simp only [go_sem, ↓reduceIte, Nat.reduceEqDiff, Nat.reduceAdd, Nat.reduceLT, Nat.reduceLeDiff, reduceCtorEq]; rfl)) (⟨rfl, rfl, H0⟩) (by unfold ASubW; simp only [go_sem, ↓reduceIte, Nat.reduceEqDiff, Nat.reduceAdd, Nat.reduceLT, Nat.reduceLeDiff, reduceCtorEq, hk]; try simp) ?_ ?_
  · rintro ⟨kk, r⟩ nt hmax ⟨h1, h2, h3⟩
    cases r with
    | cons y r => simp [mkL] at h1
    | nil =>
      (repeat' (first | with_reducible (first | refine awp_seq ?_ | refine q7q ?_ | refine q7u ?_ | refine q7v ?_ | refine awp_ret ?_ | refine q7h ?_ | refine q7r ?_ | refine q7l ?_ | refine q7g ?_ | refine q7m ?_ | refine q7i ?_ | refine q7n rfl ?_ | (refine hK _ ?_; clear K hK) | refine q7o rfl ?_ | refine q7p rfl ?_ | intro hfact) | (with_reducible refine And.intro ?_ ?_; focus (first | assumption | omega | (simp; done) | ((repeat' apply And.intro) <;> first | assumption | omega) | ((repeat' split) <;> omega))) | ((first | with_reducible (first | ((refine q7t TT ?_); intro K hK) | ((refine q7k TT ?_); intro K hK) | ((refine q7s TT [] MX (by kernel_rfl) (by kernel_rfl) ?_); intro K hK) | ((refine q7j TT [] MX (by kernel_rfl) (by kernel_rfl) ?_); intro K hK)) | (with_reducible (first | refine q7e TT E (fun hb => ?_) (fun hb => ?_) | refine q7f TT E (fun hb => ?_) (fun hb => ?_) | refine q7c TT _ _ (fun hb => ?_) (fun hb => ?_) | refine q7d TT _ _ (fun hb => ?_) (fun hb => ?_)) <;> try simp only [hb]) | ((first | refine q7b TT E (mtext_ok _ (by first | assumption | omega | (refine (?_ : (0 : Int) ≤ _ → _) ?_ <;> first | assumption | omega) | (simp; done) | (simp; omega))) rfl rfl ?_ | refine q7a TT _ _ (mtext_ok _ (by first | assumption | omega | (refine (?_ : (0 : Int) ≤ _ → _) ?_ <;> first | assumption | omega) | (simp; done) | (simp; omega))) rfl rfl ?_); intro m hm; try dsimp only at hm)) <;> simp only [go_sem, ↓reduceIte, Int.reduceBEq, Int.reduceBNe, Nat.reduceEqDiff, Nat.reduceAdd, Nat.reduceMul, Nat.reduceSub, Nat.reduceLT, Nat.reduceBEq, Nat.reduceLeDiff, reduceCtorEq, Int.reduceToNat, Int.reduceNeg, Int.reduceEq, Int.reduceLE, Int.reduceLT])))
      refine q7x TT (by simp only [go_sem, ↓reduceIte, Nat.reduceEqDiff, Nat.reduceAdd, Nat.reduceLT, Nat.reduceLeDiff, reduceCtorEq, Tryz.results82]; rfl) rfl ?_; simp only [resV, cnL] at *; rw [← h2]; simp
  · rintro j x rest ⟨kk, r⟩ nt hA ⟨h1, h2, h3⟩
    cases r with
    | nil => simp [mkL] at h1
    | cons y r =>
      simp only [mkL, List.cons.injEq] at h1
      obtain ⟨hxx, hrest⟩ := h1
      rw [hxx] at hA
      simp only [cnL, cF] at h2
      dsimp only at h3
      have hcr := cnL_nn cF (fun _ => (show (0 : Int) ≤ 3 by decide)) r
      have hw1 : IntKind.i64.wrap (kk + 1) = kk + 1 := wrap_id (by omega)
      have hw2 : IntKind.i64.wrap (kk + 1 + 1) = kk + 1 + 1 := wrap_id (by omega)
      have hw3 : IntKind.i64.wrap (kk + 1 + 1 + 1) = kk + 1 + 1 + 1 := wrap_id (by omega)
      (repeat' (first | with_reducible (first | refine awp_seq ?_ | refine q7q ?_ | refine q7u ?_ | refine q7v ?_ | refine awp_ret ?_ | refine q7h ?_ | refine q7r ?_ | refine q7l ?_ | refine q7g ?_ | refine q7m ?_ | refine q7i ?_ | refine q7n rfl ?_ | (refine hK _ ?_; clear K hK) | refine q7o rfl ?_ | refine q7p rfl ?_ | intro hfact) | (with_reducible refine And.intro ?_ ?_; focus (first | assumption | omega | (simp; done) | ((repeat' apply And.intro) <;> first | assumption | omega) | ((repeat' split) <;> omega))) | ((first | with_reducible (first | ((refine q7t TT ?_); intro K hK) | ((refine q7k TT ?_); intro K hK) | ((refine q7s TT [] MX (by kernel_rfl) (by kernel_rfl) ?_); intro K hK) | ((refine q7j TT [] MX (by kernel_rfl) (by kernel_rfl) ?_); intro K hK)) | (with_reducible (first | refine q7e TT E (fun hb => ?_) (fun hb => ?_) | refine q7f TT E (fun hb => ?_) (fun hb => ?_) | refine q7c TT _ _ (fun hb => ?_) (fun hb => ?_) | refine q7d TT _ _ (fun hb => ?_) (fun hb => ?_)) <;> try simp only [hb]) | ((first | refine q7b TT E (mtext_ok _ (by omega)) rfl rfl ?_ | refine q7a TT _ _ (mtext_ok _ (by omega)) rfl rfl ?_); intro m hm; try dsimp only at hm)) <;> simp only [go_sem, ↓reduceIte, Int.reduceBEq, Int.reduceBNe, Nat.reduceEqDiff, Nat.reduceAdd, Nat.reduceMul, Nat.reduceSub, Nat.reduceLT, Nat.reduceBEq, Nat.reduceLeDiff, reduceCtorEq, Int.reduceToNat, Int.reduceNeg, Int.reduceEq, Int.reduceLE, Int.reduceLT, hA.d, hA.w, hA.lt, hA.g, encF, fF, hw1, hw2, hw3, ]) | refine q7z rfl (fun hb => ?_) (fun hb => ?_) | refine q8a rfl (fun hb => ?_) (fun hb => ?_) | refine awp_cond rfl (fun hb => ?_) (fun hb => ?_)))
      refine ⟨(kk + 1 + 1 + 1, r), ⟨by rw [hrest]; (first | rfl | (simp only [cF]; done) | (simp only [cF]; congr 1; omega)), by dsimp only; omega, by dsimp only; omega⟩, (by unfold ASubW; simp only [go_sem, ↓reduceIte, Nat.reduceEqDiff, Nat.reduceAdd, Nat.reduceLT, Nat.reduceLeDiff, reduceCtorEq, hk]; try simp)⟩
set_option maxHeartbeats 4000000 in
set_option maxRecDepth 100000 in
theorem markS_ok (l : List (List UInt8)) (k : Int) (h0 : 0 ≤ k) (h1 : k + cnL cS l ≤ 1000000000000000) : MarkF Tryz.prog 39 (LS l) (LS (mkL fS cS l k)) k (k + cnL cS l) := by
  refine mark_of_body (rt := 4) Tryz.call39 Tryz.func39 rfl rfl Tryz.ntmps39 (by decide) fun w0 v bs hT => ?_
  simp only [TreeA, TreeV] at hT
  obtain ⟨a, cap, rfl, hcap, hx⟩ := hT
  rw [List.length_map] at *
  rcases hx with ⟨hnil, rfl⟩ | ⟨b, vs, bs', rfl, rfl, hbn, hcell, hsz, hll⟩
  · obtain rfl : l = [] := by simpa using hnil
    (repeat' (first | with_reducible (first | (refine pw_seqrK ?_; intro K hK) | (refine pw_regionK ?_; intro K hK) | (refine pw_seq ?_) | (refine pw_block ?_) | (refine pw_skip ?_) | (refine pw_ret ?_) | (refine pw_exit ?_) | (refine pr_nil ?_) | (refine pq_seq ?_) | (refine pq_then_ret ?_) | (refine pq_then_exit ?_) | (refine pq_block_normal ?_) | (refine pq_block_ret ?_) | (refine pq_block_here ?_) | (refine pq_block_far rfl ?_) | (refine pw_cond_t rfl ?_) | (refine pw_cond_f rfl ?_) | (refine hK _ _ ?_; clear K hK)) | ((first | (refine pr_move rfl (by decide) ?_) | (refine pr_assign rfl (by decide) ?_) | (refine pr_bin rfl rfl rfl (by decide) ?_) | (refine pr_len TT rfl rfl rfl (by decide) ?_) | (refine pr_iaddr TT rfl rfl rfl rfl rfl (by omega) (by omega) (by decide) ?_) | (refine pr_faddr TT rfl rfl rfl rfl (by decide) (by decide) ?_)) <;> (try simp only [DV.zv, Int.toNat_natCast, List.set_cons_zero, List.set_cons_succ]))))
    refine pw_sub (env' := [(0, .slice a 0 cap), (1, .int .i64 k), (5, .int .i64 (0 : Nat))]) (by simp [getP]) (fun w h => h) ?_
    refine pw_loop 0 5 (fun i => [(0, .slice a 0 cap), (1, .int .i64 k), (5, .int .i64 i)]) (fun _ w => w = w0) (fun i => rfl) ⟨rfl, rfl⟩ fun i hi => ?_
    obtain rfl : i = 0 := by omega
    (repeat' (first | with_reducible (first | (refine pw_seqrK ?_; intro K hK) | (refine pw_regionK ?_; intro K hK) | (refine pw_seq ?_) | (refine pw_block ?_) | (refine pw_skip ?_) | (refine pw_ret ?_) | (refine pw_exit ?_) | (refine pr_nil ?_) | (refine pq_seq ?_) | (refine pq_then_ret ?_) | (refine pq_then_exit ?_) | (refine pq_block_normal ?_) | (refine pq_block_ret ?_) | (refine pq_block_here ?_) | (refine pq_block_far rfl ?_) | (refine pw_cond_t rfl ?_) | (refine pw_cond_f rfl ?_) | (refine hK _ _ ?_; clear K hK)) | ((first | (refine pr_move rfl (by decide) ?_) | (refine pr_assign rfl (by decide) ?_) | (refine pr_bin rfl rfl rfl (by decide) ?_) | (refine pr_len TT rfl rfl rfl (by decide) ?_) | (refine pr_iaddr TT rfl rfl rfl rfl rfl (by omega) (by omega) (by decide) ?_) | (refine pr_faddr TT rfl rfl rfl rfl (by decide) (by decide) ?_)) <;> (try simp only [DV.zv, Int.toNat_natCast, List.set_cons_zero, List.set_cons_succ, dec_lt_self]))))
    rintro a w ⟨h2, h3, h4, rfl⟩
    exact ⟨.inr rfl, by rw [h4 4 _ rfl]; simp [cnL], h3, ⟨_, cap, rfl, hcap, .inl ⟨rfl, rfl⟩⟩, FrameW.refl _ _⟩
  · have hM0 : MT w0 (b :: bs') b bs' (mixD encS fS cS l k 0) w0 := ⟨vs, hcell, by rw [mixD_0]; exact treeLL_flat.1 hll, hbn, FrameW.refl _ _⟩
    (repeat' (first | with_reducible (first | (refine pw_seqrK ?_; intro K hK) | (refine pw_regionK ?_; intro K hK) | (refine pw_seq ?_) | (refine pw_block ?_) | (refine pw_skip ?_) | (refine pw_ret ?_) | (refine pw_exit ?_) | (refine pr_nil ?_) | (refine pq_seq ?_) | (refine pq_then_ret ?_) | (refine pq_then_exit ?_) | (refine pq_block_normal ?_) | (refine pq_block_ret ?_) | (refine pq_block_here ?_) | (refine pq_block_far rfl ?_) | (refine pw_cond_t rfl ?_) | (refine pw_cond_f rfl ?_) | (refine hK _ _ ?_; clear K hK)) | ((first | (refine pr_move rfl (by decide) ?_) | (refine pr_assign rfl (by decide) ?_) | (refine pr_bin rfl rfl rfl (by decide) ?_) | (refine pr_len TT rfl rfl rfl (by decide) ?_) | (refine pr_iaddr TT rfl rfl rfl rfl rfl (by omega) (by omega) (by decide) ?_) | (refine pr_faddr TT rfl rfl rfl rfl (by decide) (by decide) ?_)) <;> (try simp only [DV.zv, Int.toNat_natCast, List.set_cons_zero, List.set_cons_succ]))))
    refine pw_sub (env' := [(0, .slice (some ⟨b, 0, none⟩) l.length cap), (1, .int .i64 (k + cnL cS (l.take 0))), (5, .int .i64 (0 : Nat))]) (by simp [getP, cnL]) (M' := MT w0 (b :: bs') b bs' (mixD encS fS cS l k 0)) (fun w h => h ▸ hM0) ?_
    refine pw_loop l.length 5 (fun i => [(0, .slice (some ⟨b, 0, none⟩) l.length cap), (1, .int .i64 (k + cnL cS (l.take i))), (5, .int .i64 i)]) (fun i => MT w0 (b :: bs') b bs' (mixD encS fS cS l k i)) (fun i => rfl) ⟨rfl, rfl⟩ fun i hi => ?_
    by_cases hlt : i < l.length
    · obtain ⟨x, rest, hdr⟩ : ∃ x rest, l.drop i = x :: rest := ⟨l[i], l.drop (i + 1), List.drop_eq_getElem_cons hlt⟩
      obtain ⟨pre, post, hp1, hp2, hp3, hp4⟩ := mixD_at encS fS cS (sz := 1) (fun _ => rfl) k hdr hi
      have hc0 := cnL_nn cS (fun _ => (show (0 : Int) ≤ 1 by decide)) (l.take i)
      have hc1 := cnL_split cS hdr
      have hc2 := cnL_nn cS (fun _ => (show (0 : Int) ≤ 1 by decide)) rest
      generalize hkk : k + cnL cS (l.take i) = kk
      have hkv : k + cnL cS (l.take (i + 1)) = kk + 1 := by rw [hp4]; simp only [cS]; omega
      simp only [cS] at hc1
      have hw1 : IntKind.i64.wrap (kk + 1) = kk + 1 := wrap_id (by omega)
      have hwi : IntKind.i64.wrap ((i : Int) + 1) = ((i + 1 : Nat) : Int) := by rw [wrap_id (by omega)]; omega
      have hdi : decide ((i : Int) < (l.length : Int)) = true := by simp; omega
      have hes : (TT.T 9).size = 1 := rfl
      refine pw_weak (M' := MT w0 (b :: bs') b bs' (pre ++ ([.str x] ++ post))) (fun w h => by rw [hp2] at h; exact h) ?_
      (repeat' (first | with_reducible (first | (refine pw_seqrK ?_; intro K hK) | (refine pw_regionK ?_; intro K hK) | (refine pw_seq ?_) | (refine pw_block ?_) | (refine pw_skip ?_) | (refine pw_ret ?_) | (refine pw_exit ?_) | (refine pr_nil ?_) | (refine pq_seq ?_) | (refine pq_then_ret ?_) | (refine pq_then_exit ?_) | (refine pq_block_normal ?_) | (refine pq_block_ret ?_) | (refine pq_block_here ?_) | (refine pq_block_far rfl ?_) | (refine pw_cond_t rfl ?_) | (refine pw_cond_f rfl ?_) | (refine hK _ _ ?_; clear K hK)) | ((first | (refine pr_move rfl (by decide) ?_) | (refine pr_assign rfl (by decide) ?_) | (refine pr_bin rfl rfl rfl (by decide) ?_) | (refine pr_len TT rfl rfl rfl (by decide) ?_) | (refine pr_iaddr TT rfl rfl rfl rfl rfl (by omega) (by omega) (by decide) ?_) | (refine pr_faddr TT rfl rfl rfl rfl (by decide) (by decide) ?_) | (refine pr_store (j := 0) (c := .str (mtx _)) TT rfl rfl rfl rfl (by omega) rfl rfl ⟨rfl, mtx_len (by omega)⟩ (by simp) ?_) | (refine pr_pure (args := [_]) (mtext_ok _ (by omega)) rfl (mrep1 _) (mrepS _) (fun w w' hF h => MT.ext hF h) (by decide) ?_)) <;> (try simp only [DV.zv, Int.toNat_natCast, List.set_cons_zero, List.set_cons_succ, hw1, hwi, hdi, hes]))))
      refine pq_then fun a w hs => ⟨hlt, hs.sub (by simp [getP, hkv]) (fun w h => ?_)⟩
      show MT _ _ _ _ (mixD encS fS cS l k (i + 1)) w
      rw [hp3, hkk]
      exact h
    · obtain rfl : i = l.length := by omega
      (repeat' (first | with_reducible (first | (refine pw_seqrK ?_; intro K hK) | (refine pw_regionK ?_; intro K hK) | (refine pw_seq ?_) | (refine pw_block ?_) | (refine pw_skip ?_) | (refine pw_ret ?_) | (refine pw_exit ?_) | (refine pr_nil ?_) | (refine pq_seq ?_) | (refine pq_then_ret ?_) | (refine pq_then_exit ?_) | (refine pq_block_normal ?_) | (refine pq_block_ret ?_) | (refine pq_block_here ?_) | (refine pq_block_far rfl ?_) | (refine pw_cond_t rfl ?_) | (refine pw_cond_f rfl ?_) | (refine hK _ _ ?_; clear K hK)) | ((first | (refine pr_move rfl (by decide) ?_) | (refine pr_assign rfl (by decide) ?_) | (refine pr_bin rfl rfl rfl (by decide) ?_) | (refine pr_len TT rfl rfl rfl (by decide) ?_) | (refine pr_iaddr TT rfl rfl rfl rfl rfl (by omega) (by omega) (by decide) ?_) | (refine pr_faddr TT rfl rfl rfl rfl (by decide) (by decide) ?_)) <;> (try simp only [DV.zv, Int.toNat_natCast, List.set_cons_zero, List.set_cons_succ, dec_lt_self]))))
      rintro a w ⟨h2, h3, h4, vs', g1, g2, g3, g4⟩
      rw [List.take_length] at h4
      rw [mixD_n] at g2
      refine ⟨.inr rfl, h4 4 _ rfl, h3, ⟨_, cap, by simp [mkL_len], by simpa [mkL_len] using hcap, .inr ⟨b, vs', bs', rfl, rfl, g3, g1, ?_, treeLL_flat.2 g2⟩⟩, g4⟩
      intro x hx
      obtain ⟨y, _, rfl⟩ := List.mem_map.1 hx
      exact (fun _ => rfl) y
theorem heldS_ok (l : List (List UInt8)) (k : Int) (H0 : 0 ≤ k) (H1 : k + cnL cS l ≤ 1000000000000000) : Gives Tryz.prog 40 [LS (mkL fS cS l k), I k] (I (k + cnL cS l)) := by
  refine q7y TT Tryz.call40 Tryz.func40 rfl (by simp [Tryz.ntmps40]) (by kernel_rfl) fun E hk => ?_
  (repeat' (first | with_reducible (first | refine awp_seq ?_ | refine q7q ?_ | refine q7u ?_ | refine q7v ?_ | refine awp_ret ?_ | refine q7h ?_ | refine q7r ?_ | refine q7l ?_ | refine q7g ?_ | refine q7m ?_ | refine q7i ?_ | refine q7n rfl ?_ | (refine hK _ ?_; clear K hK) | refine q7o rfl ?_ | refine q7p rfl ?_ | intro hfact) | (with_reducible refine And.intro ?_ ?_; focus (first | assumption | omega | (simp; done) | ((repeat' apply And.intro) <;> first | assumption | omega) | ((repeat' split) <;> omega))) | ((first | with_reducible (first | ((refine q7t TT ?_); intro K hK) | ((refine q7k TT ?_); intro K hK) | ((refine q7s TT [] MX (by kernel_rfl) (by kernel_rfl) ?_); intro K hK) | ((refine q7j TT [] MX (by kernel_rfl) (by kernel_rfl) ?_); intro K hK)) | (with_reducible (first | refine q7e TT E (fun hb => ?_) (fun hb => ?_) | refine q7f TT E (fun hb => ?_) (fun hb => ?_) | refine q7c TT _ _ (fun hb => ?_) (fun hb => ?_) | refine q7d TT _ _ (fun hb => ?_) (fun hb => ?_)) <;> try simp only [hb]) | ((first | refine q7b TT E (mtext_ok _ (by first | assumption | omega | (refine (?_ : (0 : Int) ≤ _ → _) ?_ <;> first | assumption | omega) | (simp; done) | (simp; omega))) rfl rfl ?_ | refine q7a TT _ _ (mtext_ok _ (by first | assumption | omega | (refine (?_ : (0 : Int) ≤ _ → _) ?_ <;> first | assumption | omega) | (simp; done) | (simp; omega))) rfl rfl ?_); intro m hm; try dsimp only at hm)) <;> simp only [go_sem, ↓reduceIte, Int.reduceBEq, Int.reduceBNe, Nat.reduceEqDiff, Nat.reduceAdd, Nat.reduceMul, Nat.reduceSub, Nat.reduceLT, Nat.reduceBEq, Nat.reduceLeDiff, reduceCtorEq, Int.reduceToNat, Int.reduceNeg, Int.reduceEq, Int.reduceLE, Int.reduceLT])))
  refine awp_zip (mkL fS cS l k) (List.length (mkL fS cS l k)) 0 [] [0] (fun j s => [(1, I s.1), (5, I j)]) (fun obs j s => obs) (fun j s => []) (fun j rest s nt => rest = mkL fS cS s.2 s.1 ∧ s.1 + cnL cS s.2 = k + cnL cS l ∧ 0 ≤ s.1) ((k, l)) (by first | rfl | (simp; done) | (simp; omega)) (by first | rfl | (simp only [go_sem, ↓reduceIte, Nat.reduceEqDiff, Nat.reduceAdd, Nat.reduceLT, Nat.reduceLeDiff, reduceCtorEq]; done) | (simp only [go_sem, ↓reduceIte, Nat.reduceEqDiff, Nat.reduceAdd, Nat.reduceLT, Nat.reduceLeDiff, reduceCtorEq]; simp; done)) (by simp only [go_sem, ↓reduceIte, Nat.reduceEqDiff, Nat.reduceAdd, Nat.reduceLT, Nat.reduceLeDiff, reduceCtorEq]; rfl) (by first | rfl | (simp only [go_sem, ↓reduceIte, Nat.reduceEqDiff, Nat.reduceAdd, Nat.reduceLT, Nat.reduceLeDiff, reduceCtorEq]; rfl)) (⟨rfl, rfl, H0⟩) (by unfold ASubW; simp only [go_sem, ↓reduceIte, Nat.reduceEqDiff, Nat.reduceAdd, Nat.reduceLT, Nat.reduceLeDiff, reduceCtorEq, hk]; try simp) ?_ ?_
  · rintro ⟨kk, r⟩ nt hmax ⟨h1, h2, h3⟩
    cases r with
    | cons y r => simp [mkL] at h1
    | nil =>
      (repeat' (first | with_reducible (first | refine awp_seq ?_ | refine q7q ?_ | refine q7u ?_ | refine q7v ?_ | refine awp_ret ?_ | refine q7h ?_ | refine q7r ?_ | refine q7l ?_ | refine q7g ?_ | refine q7m ?_ | refine q7i ?_ | refine q7n rfl ?_ | (refine hK _ ?_; clear K hK) | refine q7o rfl ?_ | refine q7p rfl ?_ | intro hfact) | (with_reducible refine And.intro ?_ ?_; focus (first | assumption | omega | (simp; done) | ((repeat' apply And.intro) <;> first | assumption | omega) | ((repeat' split) <;> omega))) | ((first | with_reducible (first | ((refine q7t TT ?_); intro K hK) | ((refine q7k TT ?_); intro K hK) | ((refine q7s TT [] MX (by kernel_rfl) (by kernel_rfl) ?_); intro K hK) | ((refine q7j TT [] MX (by kernel_rfl) (by kernel_rfl) ?_); intro K hK)) | (with_reducible (first | refine q7e TT E (fun hb => ?_) (fun hb => ?_) | refine q7f TT E (fun hb => ?_) (fun hb => ?_) | refine q7c TT _ _ (fun hb => ?_) (fun hb => ?_) | refine q7d TT _ _ (fun hb => ?_) (fun hb => ?_)) <;> try simp only [hb]) | ((first | refine q7b TT E (mtext_ok _ (by first | assumption | omega | (refine (?_ : (0 : Int) ≤ _ → _) ?_ <;> first | assumption | omega) | (simp; done) | (simp; omega))) rfl rfl ?_ | refine q7a TT _ _ (mtext_ok _ (by first | assumption | omega | (refine (?_ : (0 : Int) ≤ _ → _) ?_ <;> first | assumption | omega) | (simp; done) | (simp; omega))) rfl rfl ?_); intro m hm; try dsimp only at hm)) <;> simp only [go_sem, ↓reduceIte, Int.reduceBEq, Int.reduceBNe, Nat.reduceEqDiff, Nat.reduceAdd, Nat.reduceMul, Nat.reduceSub, Nat.reduceLT, Nat.reduceBEq, Nat.reduceLeDiff, reduceCtorEq, Int.reduceToNat, Int.reduceNeg, Int.reduceEq, Int.reduceLE, Int.reduceLT])))
      refine q7x TT (by simp only [go_sem, ↓reduceIte, Nat.reduceEqDiff, Nat.reduceAdd, Nat.reduceLT, Nat.reduceLeDiff, reduceCtorEq, Tryz.results40]; rfl) rfl ?_; simp only [resV, cnL] at *; rw [← h2]; simp
  · rintro j x rest ⟨kk, r⟩ nt hA ⟨h1, h2, h3⟩
    cases r with
    | nil => simp [mkL] at h1
    | cons y r =>
      simp only [mkL, List.cons.injEq] at h1
      obtain ⟨hxx, hrest⟩ := h1
      rw [hxx] at hA
      simp only [cnL, cS] at h2
      dsimp only at h3
      have hcr := cnL_nn cS (fun _ => (show (0 : Int) ≤ 1 by decide)) r
      have hw1 : IntKind.i64.wrap (kk + 1) = kk + 1 := wrap_id (by omega)
      (repeat' (first | with_reducible (first | refine awp_seq ?_ | refine q7q ?_ | refine q7u ?_ | refine q7v ?_ | refine awp_ret ?_ | refine q7h ?_ | refine q7r ?_ | refine q7l ?_ | refine q7g ?_ | refine q7m ?_ | refine q7i ?_ | refine q7n rfl ?_ | (refine hK _ ?_; clear K hK) | refine q7o rfl ?_ | refine q7p rfl ?_ | intro hfact) | (with_reducible refine And.intro ?_ ?_; focus (first | assumption | omega | (simp; done) | ((repeat' apply And.intro) <;> first | assumption | omega) | ((repeat' split) <;> omega))) | ((first | with_reducible (first | ((refine q7t TT ?_); intro K hK) | ((refine q7k TT ?_); intro K hK) | ((refine q7s TT [] MX (by kernel_rfl) (by kernel_rfl) ?_); intro K hK) | ((refine q7j TT [] MX (by kernel_rfl) (by kernel_rfl) ?_); intro K hK)) | (with_reducible (first | refine q7e TT E (fun hb => ?_) (fun hb => ?_) | refine q7f TT E (fun hb => ?_) (fun hb => ?_) | refine q7c TT _ _ (fun hb => ?_) (fun hb => ?_) | refine q7d TT _ _ (fun hb => ?_) (fun hb => ?_)) <;> try simp only [hb]) | ((first | refine q7b TT E (mtext_ok _ (by omega)) rfl rfl ?_ | refine q7a TT _ _ (mtext_ok _ (by omega)) rfl rfl ?_); intro m hm; try dsimp only at hm)) <;> simp only [go_sem, ↓reduceIte, Int.reduceBEq, Int.reduceBNe, Nat.reduceEqDiff, Nat.reduceAdd, Nat.reduceMul, Nat.reduceSub, Nat.reduceLT, Nat.reduceBEq, Nat.reduceLeDiff, reduceCtorEq, Int.reduceToNat, Int.reduceNeg, Int.reduceEq, Int.reduceLE, Int.reduceLT, hA.d, hA.w, hA.lt, hA.g, encS, fS, hw1, ]) | refine q7z rfl (fun hb => ?_) (fun hb => ?_) | refine q8a rfl (fun hb => ?_) (fun hb => ?_) | refine awp_cond rfl (fun hb => ?_) (fun hb => ?_)))
      refine ⟨(kk + 1, r), ⟨by rw [hrest]; (first | rfl | (simp only [cS]; done) | (simp only [cS]; congr 1; omega)), by dsimp only; omega, by dsimp only; omega⟩, (by unfold ASubW; simp only [go_sem, ↓reduceIte, Nat.reduceEqDiff, Nat.reduceAdd, Nat.reduceLT, Nat.reduceLeDiff, reduceCtorEq, hk]; try simp)⟩
set_option maxHeartbeats 4000000 in
set_option maxRecDepth 100000 in
theorem markI_ok (l : List Int) (k : Int) (h0 : 0 ≤ k) (h1 : k + cnL cI l ≤ 1000000000000000) : MarkF Tryz.prog 47 (LI l) (LI (mkL fI cI l k)) k (k + cnL cI l) := by
  refine mark_of_body (rt := 4) Tryz.call47 Tryz.func47 rfl rfl Tryz.ntmps47 (by decide) fun w0 v bs hT => ?_
  simp only [TreeA, TreeV] at hT
  obtain ⟨a, cap, rfl, hcap, hx⟩ := hT
  rw [List.length_map] at *
  rcases hx with ⟨hnil, rfl⟩ | ⟨b, vs, bs', rfl, rfl, hbn, hcell, hsz, hll⟩
  · obtain rfl : l = [] := by simpa using hnil
    (repeat' (first | with_reducible (first | (refine pw_seqrK ?_; intro K hK) | (refine pw_regionK ?_; intro K hK) | (refine pw_seq ?_) | (refine pw_block ?_) | (refine pw_skip ?_) | (refine pw_ret ?_) | (refine pw_exit ?_) | (refine pr_nil ?_) | (refine pq_seq ?_) | (refine pq_then_ret ?_) | (refine pq_then_exit ?_) | (refine pq_block_normal ?_) | (refine pq_block_ret ?_) | (refine pq_block_here ?_) | (refine pq_block_far rfl ?_) | (refine pw_cond_t rfl ?_) | (refine pw_cond_f rfl ?_) | (refine hK _ _ ?_; clear K hK)) | ((first | (refine pr_move rfl (by decide) ?_) | (refine pr_assign rfl (by decide) ?_) | (refine pr_bin rfl rfl rfl (by decide) ?_) | (refine pr_len TT rfl rfl rfl (by decide) ?_) | (refine pr_iaddr TT rfl rfl rfl rfl rfl (by omega) (by omega) (by decide) ?_) | (refine pr_faddr TT rfl rfl rfl rfl (by decide) (by decide) ?_)) <;> (try simp only [DV.zv, Int.toNat_natCast, List.set_cons_zero, List.set_cons_succ]))))
    refine pw_sub (env' := [(0, .slice a 0 cap), (1, .int .i64 k), (5, .int .i64 (0 : Nat))]) (by simp [getP]) (fun w h => h) ?_
    refine pw_loop 0 5 (fun i => [(0, .slice a 0 cap), (1, .int .i64 k), (5, .int .i64 i)]) (fun _ w => w = w0) (fun i => rfl) ⟨rfl, rfl⟩ fun i hi => ?_
    obtain rfl : i = 0 := by omega
    (repeat' (first | with_reducible (first | (refine pw_seqrK ?_; intro K hK) | (refine pw_regionK ?_; intro K hK) | (refine pw_seq ?_) | (refine pw_block ?_) | (refine pw_skip ?_) | (refine pw_ret ?_) | (refine pw_exit ?_) | (refine pr_nil ?_) | (refine pq_seq ?_) | (refine pq_then_ret ?_) | (refine pq_then_exit ?_) | (refine pq_block_normal ?_) | (refine pq_block_ret ?_) | (refine pq_block_here ?_) | (refine pq_block_far rfl ?_) | (refine pw_cond_t rfl ?_) | (refine pw_cond_f rfl ?_) | (refine hK _ _ ?_; clear K hK)) | ((first | (refine pr_move rfl (by decide) ?_) | (refine pr_assign rfl (by decide) ?_) | (refine pr_bin rfl rfl rfl (by decide) ?_) | (refine pr_len TT rfl rfl rfl (by decide) ?_) | (refine pr_iaddr TT rfl rfl rfl rfl rfl (by omega) (by omega) (by decide) ?_) | (refine pr_faddr TT rfl rfl rfl rfl (by decide) (by decide) ?_)) <;> (try simp only [DV.zv, Int.toNat_natCast, List.set_cons_zero, List.set_cons_succ, dec_lt_self]))))
    rintro a w ⟨h2, h3, h4, rfl⟩
    exact ⟨.inr rfl, by rw [h4 4 _ rfl]; simp [cnL], h3, ⟨_, cap, rfl, hcap, .inl ⟨rfl, rfl⟩⟩, FrameW.refl _ _⟩
  · have hM0 : MT w0 (b :: bs') b bs' (mixD encI fI cI l k 0) w0 := ⟨vs, hcell, by rw [mixD_0]; exact treeLL_flat.1 hll, hbn, FrameW.refl _ _⟩
    (repeat' (first | with_reducible (first | (refine pw_seqrK ?_; intro K hK) | (refine pw_regionK ?_; intro K hK) | (refine pw_seq ?_) | (refine pw_block ?_) | (refine pw_skip ?_) | (refine pw_ret ?_) | (refine pw_exit ?_) | (refine pr_nil ?_) | (refine pq_seq ?_) | (refine pq_then_ret ?_) | (refine pq_then_exit ?_) | (refine pq_block_normal ?_) | (refine pq_block_ret ?_) | (refine pq_block_here ?_) | (refine pq_block_far rfl ?_) | (refine pw_cond_t rfl ?_) | (refine pw_cond_f rfl ?_) | (refine hK _ _ ?_; clear K hK)) | ((first | (refine pr_move rfl (by decide) ?_) | (refine pr_assign rfl (by decide) ?_) | (refine pr_bin rfl rfl rfl (by decide) ?_) | (refine pr_len TT rfl rfl rfl (by decide) ?_) | (refine pr_iaddr TT rfl rfl rfl rfl rfl (by omega) (by omega) (by decide) ?_) | (refine pr_faddr TT rfl rfl rfl rfl (by decide) (by decide) ?_)) <;> (try simp only [DV.zv, Int.toNat_natCast, List.set_cons_zero, List.set_cons_succ]))))
    refine pw_sub (env' := [(0, .slice (some ⟨b, 0, none⟩) l.length cap), (1, .int .i64 (k + cnL cI (l.take 0))), (5, .int .i64 (0 : Nat))]) (by simp [getP, cnL]) (M' := MT w0 (b :: bs') b bs' (mixD encI fI cI l k 0)) (fun w h => h ▸ hM0) ?_
    refine pw_loop l.length 5 (fun i => [(0, .slice (some ⟨b, 0, none⟩) l.length cap), (1, .int .i64 (k + cnL cI (l.take i))), (5, .int .i64 i)]) (fun i => MT w0 (b :: bs') b bs' (mixD encI fI cI l k i)) (fun i => rfl) ⟨rfl, rfl⟩ fun i hi => ?_
    by_cases hlt : i < l.length
    · obtain ⟨x, rest, hdr⟩ : ∃ x rest, l.drop i = x :: rest := ⟨l[i], l.drop (i + 1), List.drop_eq_getElem_cons hlt⟩
      obtain ⟨pre, post, hp1, hp2, hp3, hp4⟩ := mixD_at encI fI cI (sz := 1) (fun _ => rfl) k hdr hi
      have hc0 := cnL_nn cI (fun _ => (show (0 : Int) ≤ 1 by decide)) (l.take i)
      have hc1 := cnL_split cI hdr
      have hc2 := cnL_nn cI (fun _ => (show (0 : Int) ≤ 1 by decide)) rest
      generalize hkk : k + cnL cI (l.take i) = kk
      have hkv : k + cnL cI (l.take (i + 1)) = kk + 1 := by rw [hp4]; simp only [cI]; omega
      simp only [cI] at hc1
      have hw1 : IntKind.i64.wrap (kk + 1) = kk + 1 := wrap_id (by omega)
      have hwi : IntKind.i64.wrap ((i : Int) + 1) = ((i + 1 : Nat) : Int) := by rw [wrap_id (by omega)]; omega
      have hdi : decide ((i : Int) < (l.length : Int)) = true := by simp; omega
      have hes : (TT.T 3).size = 1 := rfl
      refine pw_weak (M' := MT w0 (b :: bs') b bs' (pre ++ ([.int .i64 x] ++ post))) (fun w h => by rw [hp2] at h; exact h) ?_
      (repeat' (first | with_reducible (first | (refine pw_seqrK ?_; intro K hK) | (refine pw_regionK ?_; intro K hK) | (refine pw_seq ?_) | (refine pw_block ?_) | (refine pw_skip ?_) | (refine pw_ret ?_) | (refine pw_exit ?_) | (refine pr_nil ?_) | (refine pq_seq ?_) | (refine pq_then_ret ?_) | (refine pq_then_exit ?_) | (refine pq_block_normal ?_) | (refine pq_block_ret ?_) | (refine pq_block_here ?_) | (refine pq_block_far rfl ?_) | (refine pw_cond_t rfl ?_) | (refine pw_cond_f rfl ?_) | (refine hK _ _ ?_; clear K hK)) | ((first | (refine pr_move rfl (by decide) ?_) | (refine pr_assign rfl (by decide) ?_) | (refine pr_bin rfl rfl rfl (by decide) ?_) | (refine pr_len TT rfl rfl rfl (by decide) ?_) | (refine pr_iaddr TT rfl rfl rfl rfl rfl (by omega) (by omega) (by decide) ?_) | (refine pr_faddr TT rfl rfl rfl rfl (by decide) (by decide) ?_) | (refine pr_store (j := 0) (c := .int .i64 _) TT rfl rfl rfl rfl (by omega) rfl rfl rfl (by simp) ?_)) <;> (try simp only [DV.zv, Int.toNat_natCast, List.set_cons_zero, List.set_cons_succ, hw1, hwi, hdi, hes]))))
      refine pq_then fun a w hs => ⟨hlt, hs.sub (by simp [getP, hkv]) (fun w h => ?_)⟩
      show MT _ _ _ _ (mixD encI fI cI l k (i + 1)) w
      rw [hp3, hkk]
      exact h
    · obtain rfl : i = l.length := by omega
      (repeat' (first | with_reducible (first | (refine pw_seqrK ?_; intro K hK) | (refine pw_regionK ?_; intro K hK) | (refine pw_seq ?_) | (refine pw_block ?_) | (refine pw_skip ?_) | (refine pw_ret ?_) | (refine pw_exit ?_) | (refine pr_nil ?_) | (refine pq_seq ?_) | (refine pq_then_ret ?_) | (refine pq_then_exit ?_) | (refine pq_block_normal ?_) | (refine pq_block_ret ?_) | (refine pq_block_here ?_) | (refine pq_block_far rfl ?_) | (refine pw_cond_t rfl ?_) | (refine pw_cond_f rfl ?_) | (refine hK _ _ ?_; clear K hK)) | ((first | (refine pr_move rfl (by decide) ?_) | (refine pr_assign rfl (by decide) ?_) | (refine pr_bin rfl rfl rfl (by decide) ?_) | (refine pr_len TT rfl rfl rfl (by decide) ?_) | (refine pr_iaddr TT rfl rfl rfl rfl rfl (by omega) (by omega) (by decide) ?_) | (refine pr_faddr TT rfl rfl rfl rfl (by decide) (by decide) ?_)) <;> (try simp only [DV.zv, Int.toNat_natCast, List.set_cons_zero, List.set_cons_succ, dec_lt_self]))))
      rintro a w ⟨h2, h3, h4, vs', g1, g2, g3, g4⟩
      rw [List.take_length] at h4
      rw [mixD_n] at g2
      refine ⟨.inr rfl, h4 4 _ rfl, h3, ⟨_, cap, by simp [mkL_len], by simpa [mkL_len] using hcap, .inr ⟨b, vs', bs', rfl, rfl, g3, g1, ?_, treeLL_flat.2 g2⟩⟩, g4⟩
      intro x hx
      obtain ⟨y, _, rfl⟩ := List.mem_map.1 hx
      exact (fun _ => rfl) y
end Go.Proofs.YtmlnpimlfbfkbaaGreat
