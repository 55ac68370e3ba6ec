/- Walks of functions of the cut by the abstract logic, and what they compute. Filled by a program of mine from a template. -/
import Derived.Test.YtdbakncnhmphpaaY11
import Derived.Test.YtdbakncnhmphpaaN2
namespace Go.Proofs.Ytdbakncnhmphpaa
open Go Go.AL
set_option linter.unusedSimpArgs false
set_option linter.unusedVariables false
/-! ### Marks of kinded names and of a schema -/
def fK (_ : Kinded) (k : Int) : Kinded := ⟨mtx k, k + 1⟩
def cK (_ : Kinded) : Int := 2
set_option maxHeartbeats 4000000 in
set_option maxRecDepth 100000 in
theorem markK_ok (l : List Kinded) (k : Int) (h0 : 0 ≤ k) (h1 : k + cnL cK l ≤ 1000000000000000) : MarkF Try.prog 36 (LK l) (LK (mkL fK cK l k)) k (k + cnL cK l) := by
  refine mark_of_body (rt := 4) Try.call36 Try.func36 rfl rfl Try.ntmps36 (by decide) fun w0 v bs hT => ?_
  simp only [TreeA, TreeV] at hT
  obtain ⟨a, cap, rfl, hcap, hx⟩ := hT
  rw [List.length_map] at *
  rcases hx with ⟨hnil, rfl⟩ | ⟨b, vs, bs', rfl, rfl, hbn, hcell, hsz, hll⟩
  · obtain rfl : l = [] := by simpa using hnil
    (repeat' (first | with_reducible (first | (refine pw_seqrK ?_; intro K hK) | (refine pw_regionK ?_; intro K hK) | (refine pw_seq ?_) | (refine pw_block ?_) | (refine pw_skip ?_) | (refine pw_ret ?_) | (refine pw_exit ?_) | (refine pr_nil ?_) | (refine pq_seq ?_) | (refine pq_then_ret ?_) | (refine pq_then_exit ?_) | (refine pq_block_normal ?_) | (refine pq_block_ret ?_) | (refine pq_block_here ?_) | (refine pq_block_far rfl ?_) | (refine pw_cond_t rfl ?_) | (refine pw_cond_f rfl ?_) | (refine hK _ _ ?_; clear K hK)) | ((first | (refine pr_move rfl (by decide) ?_) | (refine pr_assign rfl (by decide) ?_) | (refine pr_bin rfl rfl rfl (by decide) ?_) | (refine pr_len TT rfl rfl rfl (by decide) ?_) | (refine pr_iaddr TT rfl rfl rfl rfl rfl (by omega) (by omega) (by decide) ?_) | (refine pr_faddr TT rfl rfl rfl rfl (by decide) (by decide) ?_)) <;> (try simp only [DV.zv, Int.toNat_natCast, List.set_cons_zero, List.set_cons_succ]))))
    refine pw_sub (env' := [(0, .slice a 0 cap), (1, .int .i64 k), (5, .int .i64 (0 : Nat))]) (by simp [getP]) (fun w h => h) ?_
    refine pw_loop 0 5 (fun i => [(0, .slice a 0 cap), (1, .int .i64 k), (5, .int .i64 i)]) (fun _ w => w = w0) (fun i => rfl) ⟨rfl, rfl⟩ fun i hi => ?_
    obtain rfl : i = 0 := by omega
    (repeat' (first | with_reducible (first | (refine pw_seqrK ?_; intro K hK) | (refine pw_regionK ?_; intro K hK) | (refine pw_seq ?_) | (refine pw_block ?_) | (refine pw_skip ?_) | (refine pw_ret ?_) | (refine pw_exit ?_) | (refine pr_nil ?_) | (refine pq_seq ?_) | (refine pq_then_ret ?_) | (refine pq_then_exit ?_) | (refine pq_block_normal ?_) | (refine pq_block_ret ?_) | (refine pq_block_here ?_) | (refine pq_block_far rfl ?_) | (refine pw_cond_t rfl ?_) | (refine pw_cond_f rfl ?_) | (refine hK _ _ ?_; clear K hK)) | ((first | (refine pr_move rfl (by decide) ?_) | (refine pr_assign rfl (by decide) ?_) | (refine pr_bin rfl rfl rfl (by decide) ?_) | (refine pr_len TT rfl rfl rfl (by decide) ?_) | (refine pr_iaddr TT rfl rfl rfl rfl rfl (by omega) (by omega) (by decide) ?_) | (refine pr_faddr TT rfl rfl rfl rfl (by decide) (by decide) ?_)) <;> (try simp only [DV.zv, Int.toNat_natCast, List.set_cons_zero, List.set_cons_succ, dec_lt_self]))))
    rintro a w ⟨h2, h3, h4, rfl⟩
    exact ⟨.inr rfl, by rw [h4 4 _ rfl]; simp [cnL], h3, ⟨_, cap, rfl, hcap, .inl ⟨rfl, rfl⟩⟩, FrameW.refl _ _⟩
  · have hM0 : MT w0 (b :: bs') b bs' (mixD encK fK cK l k 0) w0 := ⟨vs, hcell, by rw [mixD_0]; exact treeLL_flat.1 hll, hbn, FrameW.refl _ _⟩
    (repeat' (first | with_reducible (first | (refine pw_seqrK ?_; intro K hK) | (refine pw_regionK ?_; intro K hK) | (refine pw_seq ?_) | (refine pw_block ?_) | (refine pw_skip ?_) | (refine pw_ret ?_) | (refine pw_exit ?_) | (refine pr_nil ?_) | (refine pq_seq ?_) | (refine pq_then_ret ?_) | (refine pq_then_exit ?_) | (refine pq_block_normal ?_) | (refine pq_block_ret ?_) | (refine pq_block_here ?_) | (refine pq_block_far rfl ?_) | (refine pw_cond_t rfl ?_) | (refine pw_cond_f rfl ?_) | (refine hK _ _ ?_; clear K hK)) | ((first | (refine pr_move rfl (by decide) ?_) | (refine pr_assign rfl (by decide) ?_) | (refine pr_bin rfl rfl rfl (by decide) ?_) | (refine pr_len TT rfl rfl rfl (by decide) ?_) | (refine pr_iaddr TT rfl rfl rfl rfl rfl (by omega) (by omega) (by decide) ?_) | (refine pr_faddr TT rfl rfl rfl rfl (by decide) (by decide) ?_)) <;> (try simp only [DV.zv, Int.toNat_natCast, List.set_cons_zero, List.set_cons_succ]))))
    refine pw_sub (env' := [(0, .slice (some ⟨b, 0, none⟩) l.length cap), (1, .int .i64 (k + cnL cK (l.take 0))), (5, .int .i64 (0 : Nat))]) (by simp [getP, cnL]) (M' := MT w0 (b :: bs') b bs' (mixD encK fK cK l k 0)) (fun w h => h ▸ hM0) ?_
    refine pw_loop l.length 5 (fun i => [(0, .slice (some ⟨b, 0, none⟩) l.length cap), (1, .int .i64 (k + cnL cK (l.take i))), (5, .int .i64 i)]) (fun i => MT w0 (b :: bs') b bs' (mixD encK fK cK l k i)) (fun i => rfl) ⟨rfl, rfl⟩ fun i hi => ?_
    by_cases hlt : i < l.length
    · obtain ⟨x, rest, hdr⟩ : ∃ x rest, l.drop i = x :: rest := ⟨l[i], l.drop (i + 1), List.drop_eq_getElem_cons hlt⟩
      obtain ⟨pre, post, hp1, hp2, hp3, hp4⟩ := mixD_at encK fK cK (sz := 2) (fun _ => rfl) k hdr hi
      have hc0 := cnL_nn cK (fun _ => (show (0 : Int) ≤ 2 by decide)) (l.take i)
      have hc1 := cnL_split cK hdr
      have hc2 := cnL_nn cK (fun _ => (show (0 : Int) ≤ 2 by decide)) rest
      generalize hkk : k + cnL cK (l.take i) = kk
      have hkv : k + cnL cK (l.take (i + 1)) = kk + 1 + 1 := by rw [hp4]; simp only [cK]; omega
      simp only [cK] at hc1
      have hw1 : IntKind.i64.wrap (kk + 1) = kk + 1 := wrap_id (by omega)
      have hw2 : IntKind.i64.wrap (kk + 1 + 1) = kk + 1 + 1 := wrap_id (by omega)
      have hwi : IntKind.i64.wrap ((i : Int) + 1) = ((i + 1 : Nat) : Int) := by rw [wrap_id (by omega)]; omega
      have hdi : decide ((i : Int) < (l.length : Int)) = true := by simp; omega
      have hes : (TT.T 96).size = 2 := rfl
      refine pw_weak (M' := MT w0 (b :: bs') b bs' (pre ++ ([.str x.name, .int .i64 x.kind] ++ post))) (fun w h => by rw [hp2] at h; exact h) ?_
      (repeat' (first | with_reducible (first | (refine pw_seqrK ?_; intro K hK) | (refine pw_regionK ?_; intro K hK) | (refine pw_seq ?_) | (refine pw_block ?_) | (refine pw_skip ?_) | (refine pw_ret ?_) | (refine pw_exit ?_) | (refine pr_nil ?_) | (refine pq_seq ?_) | (refine pq_then_ret ?_) | (refine pq_then_exit ?_) | (refine pq_block_normal ?_) | (refine pq_block_ret ?_) | (refine pq_block_here ?_) | (refine pq_block_far rfl ?_) | (refine pw_cond_t rfl ?_) | (refine pw_cond_f rfl ?_) | (refine hK _ _ ?_; clear K hK)) | ((first | (refine pr_move rfl (by decide) ?_) | (refine pr_assign rfl (by decide) ?_) | (refine pr_bin rfl rfl rfl (by decide) ?_) | (refine pr_len TT rfl rfl rfl (by decide) ?_) | (refine pr_iaddr TT rfl rfl rfl rfl rfl (by omega) (by omega) (by decide) ?_) | (refine pr_faddr TT rfl rfl rfl rfl (by decide) (by decide) ?_) | (refine pr_store (j := 0) (c := .str (mtx _)) TT rfl rfl rfl rfl (by omega) rfl rfl ⟨rfl, mtx_len (by omega)⟩ (by simp) ?_) | (refine pr_store (j := 1) (c := .int .i64 _) TT rfl rfl rfl rfl (by omega) rfl rfl rfl (by simp) ?_) | (refine pr_pure (args := [_]) (mtext_ok _ (by omega)) rfl (mrep1 _) (mrepS _) (fun w w' hF h => MT.ext hF h) (by decide) ?_)) <;> (try simp only [DV.zv, Int.toNat_natCast, List.set_cons_zero, List.set_cons_succ, hw1, hw2, hwi, hdi, hes]))))
      refine pq_then fun a w hs => ⟨hlt, hs.sub (by simp [getP, hkv]) (fun w h => ?_)⟩
      show MT _ _ _ _ (mixD encK fK cK l k (i + 1)) w
      rw [hp3, hkk]
      exact h
    · obtain rfl : i = l.length := by omega
      (repeat' (first | with_reducible (first | (refine pw_seqrK ?_; intro K hK) | (refine pw_regionK ?_; intro K hK) | (refine pw_seq ?_) | (refine pw_block ?_) | (refine pw_skip ?_) | (refine pw_ret ?_) | (refine pw_exit ?_) | (refine pr_nil ?_) | (refine pq_seq ?_) | (refine pq_then_ret ?_) | (refine pq_then_exit ?_) | (refine pq_block_normal ?_) | (refine pq_block_ret ?_) | (refine pq_block_here ?_) | (refine pq_block_far rfl ?_) | (refine pw_cond_t rfl ?_) | (refine pw_cond_f rfl ?_) | (refine hK _ _ ?_; clear K hK)) | ((first | (refine pr_move rfl (by decide) ?_) | (refine pr_assign rfl (by decide) ?_) | (refine pr_bin rfl rfl rfl (by decide) ?_) | (refine pr_len TT rfl rfl rfl (by decide) ?_) | (refine pr_iaddr TT rfl rfl rfl rfl rfl (by omega) (by omega) (by decide) ?_) | (refine pr_faddr TT rfl rfl rfl rfl (by decide) (by decide) ?_)) <;> (try simp only [DV.zv, Int.toNat_natCast, List.set_cons_zero, List.set_cons_succ, dec_lt_self]))))
      rintro a w ⟨h2, h3, h4, vs', g1, g2, g3, g4⟩
      rw [List.take_length] at h4
      rw [mixD_n] at g2
      refine ⟨.inr rfl, h4 4 _ rfl, h3, ⟨_, cap, by simp [mkL_len], by simpa [mkL_len] using hcap, .inr ⟨b, vs', bs', rfl, rfl, g3, g1, ?_, treeLL_flat.2 g2⟩⟩, g4⟩
      intro x hx
      obtain ⟨y, _, rfl⟩ := List.mem_map.1 hx
      exact (fun _ => rfl) y
set_option maxHeartbeats 4000000 in
set_option maxRecDepth 100000 in
theorem markSc_ok (sa sb : List Kinded) (k : Int) (h0 : 0 ≤ k) (h1 : k + cnL cK sa + cnL cK sb ≤ 1000000000000000) : MarkF Try.prog 13 (.agg [.sl 2 (sa.map encK) .no, .sl 2 (sb.map encK) .no]) (.agg [.sl 2 ((mkL fK cK sa k).map encK) .no, .sl 2 ((mkL fK cK sb (k + cnL cK sa)).map encK) .no]) k (k + cnL cK sa + cnL cK sb) := by
  refine mark_of_body (rt := 4) Try.call13 Try.func13 rfl rfl Try.ntmps13 (by decide) fun w0 v bs hT => ?_
  obtain ⟨vs, rfl, hT⟩ := hT
  (repeat' (first | with_reducible (first | (refine pw_seqrK ?_; intro K hK) | (refine pw_regionK ?_; intro K hK) | (refine pw_seq ?_) | (refine pw_block ?_) | (refine pw_skip ?_) | (refine pw_ret ?_) | (refine pw_exit ?_) | (refine pr_nil ?_) | (refine pq_seq ?_) | (refine pq_then_ret ?_) | (refine pq_then_exit ?_) | (refine pq_block_normal ?_) | (refine pq_block_ret ?_) | (refine pq_block_here ?_) | (refine pq_block_far rfl ?_) | (refine pw_cond_t rfl ?_) | (refine pw_cond_f rfl ?_) | (refine hK _ _ ?_; clear K hK)) | ((first | (refine pr_move rfl (by decide) ?_) | (refine pr_assign rfl (by decide) ?_) | (refine pr_bin rfl rfl rfl (by decide) ?_) | (refine pr_len TT rfl rfl rfl (by decide) ?_) | (refine pr_iaddr TT rfl rfl rfl rfl rfl (by omega) (by omega) (by decide) ?_) | (refine pr_faddr TT rfl rfl rfl rfl (by decide) (by decide) ?_) | (refine pr_box rfl hT (by decide) ?_; intro b) | (refine pr_innerV (pre := []) (post := []) (j := 0) TT (markK_ok sa k h0 (by have := cnL_nn cK (fun _ => (show (0 : Int) ≤ 2 by decide)) sb; omega)) rfl rfl rfl rfl rfl (by simp) rfl (fun z hz => hz) (by decide) rfl ?_ rfl rfl) | (refine pr_innerV (pre := []) (post := []) (j := 1) TT (markK_ok sb (k + cnL cK sa) (by have := cnL_nn cK (fun _ => (show (0 : Int) ≤ 2 by decide)) sa; omega) h1) rfl rfl rfl rfl rfl (by simp) rfl (fun z hz => hz) (by decide) rfl ?_ rfl rfl)) <;> (try simp only [DV.zv, Int.toNat_natCast, List.set_cons_zero, List.set_cons_succ]))))
  rintro a w ⟨h2, h3, h4, g1, g2, g3, g4⟩
  exact ⟨.inr rfl, h4 4 _ rfl, h3, ⟨vs, rfl, by simpa using g2⟩, g4⟩
end Go.Proofs.Ytdbakncnhmphpaa
