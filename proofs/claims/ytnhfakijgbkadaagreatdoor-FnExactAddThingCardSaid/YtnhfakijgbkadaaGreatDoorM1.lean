/- Walks of functions of the cut by the abstract logic, and what they compute. Filled by a program of mine from a template. -/
import Derived.Test.YtnhfakijgbkadaaGreatDoorM0
import Derived.Test.YtnhfakijgbkadaaGreatDoorE2
namespace Go.Proofs.YtnhfakijgbkadaaGreatDoor
open Go Go.AL
set_option linter.unusedSimpArgs false
set_option linter.unusedVariables false
/-! ### Things, requests, expressions, policies -/
def fT (t : Thing) (k : Int) : Thing := ⟨mkL fI cI t.groups k, mkL fF cF t.fields (k + cnL cI t.groups)⟩
def cT (t : Thing) : Int := cnL cI t.groups + cnL cF t.fields
theorem cT_eq (t : Thing) : cT t = cnL cI t.groups + cnL cF t.fields := rfl
theorem cT_nn (t : Thing) : 0 ≤ cT t := by
  have h1 := cnL_nn cI (fun _ => (show (0 : Int) ≤ 1 by decide)) t.groups
  have h2 := cnL_nn cF (fun _ => (show (0 : Int) ≤ 3 by decide)) t.fields
  unfold cT; omega
def fQ (t : Request) (k : Int) : Request := ⟨k, k + 1, k + 1 + 1, mkL fF cF t.fields (k + 1 + 1 + 1)⟩
def cQ (t : Request) : Int := 3 + cnL cF t.fields
mutual
def cE : Expr → Int
  | .mk _ _ _ ps => 3 + cEs ps
def cEs : List Expr → Int
  | [] => 0
  | e :: l => cE e + cEs l
end
mutual
def fE : Expr → Int → Expr
  | .mk _ _ _ ps, k => .mk k (k + 1) (mtx (k + 1 + 1)) (fEs ps (k + 1 + 1 + 1))
def fEs : List Expr → Int → List Expr
  | [], _ => []
  | e :: l, k => fE e k :: fEs l (k + cE e)
end
abbrev LPm (l : List Policy) : AV := .d (.sl 9 (l.map encPolicy) .no)
def fP (p : Policy) (k : Int) : Policy := ⟨mtx k, ((k + 1).tmod 3 == 0), k + 1 + 1, k + 1 + 1 + 1, k + 1 + 1 + 1 + 1, .mk (k + 1 + 1 + 1 + 1 + 1) (k + 1 + 1 + 1 + 1 + 1 + 1) (mtx (k + 1 + 1 + 1 + 1 + 1 + 1 + 1)) (mkL fE cE p.when.parts (k + 1 + 1 + 1 + 1 + 1 + 1 + 1 + 1))⟩
def cP (p : Policy) : Int := 8 + cnL cE p.when.parts
set_option maxHeartbeats 4000000 in
set_option maxRecDepth 100000 in
theorem markT_ok (l : List Thing) (k : Int) (h0 : 0 ≤ k) (h1 : k + cnL cT l ≤ 1000000000000000) : MarkF Tryz.prog 18 (LT l) (LT (mkL fT cT l k)) k (k + cnL cT l) := by
  refine mark_of_body (rt := 4) Tryz.call18 Tryz.func18 rfl rfl Tryz.ntmps18 (by decide) fun w0 v bs hT => ?_
  simp only [TreeA, TreeV] at hT
  obtain ⟨a, cap, rfl, hcap, hx⟩ := hT
  rw [List.length_map] at *
  rcases hx with ⟨hnil, rfl⟩ | ⟨b, vs, bs', rfl, rfl, hbn, hcell, hsz, hll⟩
  · obtain rfl : l = [] := by simpa using hnil
    (repeat' (first | with_reducible (first | (refine pw_seqrK ?_; intro K hK) | (refine pw_regionK ?_; intro K hK) | (refine pw_seq ?_) | (refine pw_block ?_) | (refine pw_skip ?_) | (refine pw_ret ?_) | (refine pw_exit ?_) | (refine pr_nil ?_) | (refine pq_seq ?_) | (refine pq_then_ret ?_) | (refine pq_then_exit ?_) | (refine pq_block_normal ?_) | (refine pq_block_ret ?_) | (refine pq_block_here ?_) | (refine pq_block_far rfl ?_) | (refine pw_cond_t rfl ?_) | (refine pw_cond_f rfl ?_) | (refine hK _ _ ?_; clear K hK)) | ((first | (refine pr_move rfl (by decide) ?_) | (refine pr_assign rfl (by decide) ?_) | (refine pr_bin rfl rfl rfl (by decide) ?_) | (refine pr_len TT rfl rfl rfl (by decide) ?_) | (refine pr_iaddr TT rfl rfl rfl rfl rfl (by omega) (by omega) (by decide) ?_) | (refine pr_faddr TT rfl rfl rfl rfl (by decide) (by decide) ?_)) <;> (try simp only [DV.zv, Int.toNat_natCast, List.set_cons_zero, List.set_cons_succ]))))
    refine pw_sub (env' := [(0, .slice a 0 cap), (1, .int .i64 k), (5, .int .i64 (0 : Nat))]) (by simp [getP]) (fun w h => h) ?_
    refine pw_loop 0 5 (fun i => [(0, .slice a 0 cap), (1, .int .i64 k), (5, .int .i64 i)]) (fun _ w => w = w0) (fun i => rfl) ⟨rfl, rfl⟩ fun i hi => ?_
    obtain rfl : i = 0 := by omega
    (repeat' (first | with_reducible (first | (refine pw_seqrK ?_; intro K hK) | (refine pw_regionK ?_; intro K hK) | (refine pw_seq ?_) | (refine pw_block ?_) | (refine pw_skip ?_) | (refine pw_ret ?_) | (refine pw_exit ?_) | (refine pr_nil ?_) | (refine pq_seq ?_) | (refine pq_then_ret ?_) | (refine pq_then_exit ?_) | (refine pq_block_normal ?_) | (refine pq_block_ret ?_) | (refine pq_block_here ?_) | (refine pq_block_far rfl ?_) | (refine pw_cond_t rfl ?_) | (refine pw_cond_f rfl ?_) | (refine hK _ _ ?_; clear K hK)) | ((first | (refine pr_move rfl (by decide) ?_) | (refine pr_assign rfl (by decide) ?_) | (refine pr_bin rfl rfl rfl (by decide) ?_) | (refine pr_len TT rfl rfl rfl (by decide) ?_) | (refine pr_iaddr TT rfl rfl rfl rfl rfl (by omega) (by omega) (by decide) ?_) | (refine pr_faddr TT rfl rfl rfl rfl (by decide) (by decide) ?_)) <;> (try simp only [DV.zv, Int.toNat_natCast, List.set_cons_zero, List.set_cons_succ, dec_lt_self]))))
    rintro a w ⟨h2, h3, h4, rfl⟩
    exact ⟨.inr rfl, by rw [h4 4 _ rfl]; simp [cnL], h3, ⟨_, cap, rfl, hcap, .inl ⟨rfl, rfl⟩⟩, FrameW.refl _ _⟩
  · have hM0 : MT w0 (b :: bs') b bs' (mixD encT fT cT l k 0) w0 := ⟨vs, hcell, by rw [mixD_0]; exact treeLL_flat.1 hll, hbn, FrameW.refl _ _⟩
    (repeat' (first | with_reducible (first | (refine pw_seqrK ?_; intro K hK) | (refine pw_regionK ?_; intro K hK) | (refine pw_seq ?_) | (refine pw_block ?_) | (refine pw_skip ?_) | (refine pw_ret ?_) | (refine pw_exit ?_) | (refine pr_nil ?_) | (refine pq_seq ?_) | (refine pq_then_ret ?_) | (refine pq_then_exit ?_) | (refine pq_block_normal ?_) | (refine pq_block_ret ?_) | (refine pq_block_here ?_) | (refine pq_block_far rfl ?_) | (refine pw_cond_t rfl ?_) | (refine pw_cond_f rfl ?_) | (refine hK _ _ ?_; clear K hK)) | ((first | (refine pr_move rfl (by decide) ?_) | (refine pr_assign rfl (by decide) ?_) | (refine pr_bin rfl rfl rfl (by decide) ?_) | (refine pr_len TT rfl rfl rfl (by decide) ?_) | (refine pr_iaddr TT rfl rfl rfl rfl rfl (by omega) (by omega) (by decide) ?_) | (refine pr_faddr TT rfl rfl rfl rfl (by decide) (by decide) ?_)) <;> (try simp only [DV.zv, Int.toNat_natCast, List.set_cons_zero, List.set_cons_succ]))))
    refine pw_sub (env' := [(0, .slice (some ⟨b, 0, none⟩) l.length cap), (1, .int .i64 (k + cnL cT (l.take 0))), (5, .int .i64 (0 : Nat))]) (by simp [getP, cnL]) (M' := MT w0 (b :: bs') b bs' (mixD encT fT cT l k 0)) (fun w h => h ▸ hM0) ?_
    refine pw_loop l.length 5 (fun i => [(0, .slice (some ⟨b, 0, none⟩) l.length cap), (1, .int .i64 (k + cnL cT (l.take i))), (5, .int .i64 i)]) (fun i => MT w0 (b :: bs') b bs' (mixD encT fT cT l k i)) (fun i => rfl) ⟨rfl, rfl⟩ fun i hi => ?_
    by_cases hlt : i < l.length
    · obtain ⟨x, rest, hdr⟩ : ∃ x rest, l.drop i = x :: rest := ⟨l[i], l.drop (i + 1), List.drop_eq_getElem_cons hlt⟩
      obtain ⟨pre, post, hp1, hp2, hp3, hp4⟩ := mixD_at encT fT cT (sz := 2) (fun _ => rfl) k hdr hi
      have hc0 := cnL_nn cT cT_nn (l.take i)
      have hc1 := cnL_split cT hdr
      have hc2 := cnL_nn cT cT_nn rest
      generalize hkk : k + cnL cT (l.take i) = kk
      have hn1 := cnL_nn cI (fun _ => (show (0 : Int) ≤ 1 by decide)) x.groups
      have hn2 := cnL_nn cF (fun _ => (show (0 : Int) ≤ 3 by decide)) x.fields
      have hcu := cT_eq x
      have hkv : k + cnL cT (l.take (i + 1)) = kk + cnL cI x.groups + cnL cF x.fields := by rw [hp4]; rw [cT_eq]; omega
      rw [cT_eq] at hc1

      have hwi : IntKind.i64.wrap ((i : Int) + 1) = ((i + 1 : Nat) : Int) := by rw [wrap_id (by omega)]; omega
      have hdi : decide ((i : Int) < (l.length : Int)) = true := by simp; omega
      have hes : (TT.T 45).size = 2 := rfl
      refine pw_weak (M' := MT w0 (b :: bs') b bs' (pre ++ ([.sl 1 (x.groups.map encI) .no, .sl 3 (x.fields.map encF) .no] ++ post))) (fun w h => by rw [hp2] at h; exact h) ?_
      (repeat' (first | with_reducible (first | (refine pw_seqrK ?_; intro K hK) | (refine pw_regionK ?_; intro K hK) | (refine pw_seq ?_) | (refine pw_block ?_) | (refine pw_skip ?_) | (refine pw_ret ?_) | (refine pw_exit ?_) | (refine pr_nil ?_) | (refine pq_seq ?_) | (refine pq_then_ret ?_) | (refine pq_then_exit ?_) | (refine pq_block_normal ?_) | (refine pq_block_ret ?_) | (refine pq_block_here ?_) | (refine pq_block_far rfl ?_) | (refine pw_cond_t rfl ?_) | (refine pw_cond_f rfl ?_) | (refine hK _ _ ?_; clear K hK)) | ((first | (refine pr_move rfl (by decide) ?_) | (refine pr_assign rfl (by decide) ?_) | (refine pr_bin rfl rfl rfl (by decide) ?_) | (refine pr_len TT rfl rfl rfl (by decide) ?_) | (refine pr_iaddr TT rfl rfl rfl rfl rfl (by omega) (by omega) (by decide) ?_) | (refine pr_faddr TT rfl rfl rfl rfl (by decide) (by decide) ?_) | (refine pr_inner (j := 0) TT (markI_ok x.groups kk (by omega) (by omega)) rfl rfl rfl rfl rfl (by omega) rfl (fun z hz => by simp [hz]) (by decide) rfl ?_ rfl rfl) | (refine pr_inner (j := 1) TT (markF_ok x.fields (kk + cnL cI x.groups) (by omega) (by omega)) rfl rfl rfl rfl rfl (by omega) rfl (fun z hz => by simp [hz]) (by decide) rfl ?_ rfl rfl)) <;> (try simp only [DV.zv, Int.toNat_natCast, List.set_cons_zero, List.set_cons_succ, hwi, hdi, hes]))))
      refine pq_then fun a w hs => ⟨hlt, hs.sub (by simp [getP, hkv]) (fun w h => ?_)⟩
      show MT _ _ _ _ (mixD encT fT cT l k (i + 1)) w
      rw [hp3, hkk]
      exact h
    · obtain rfl : i = l.length := by omega
      (repeat' (first | with_reducible (first | (refine pw_seqrK ?_; intro K hK) | (refine pw_regionK ?_; intro K hK) | (refine pw_seq ?_) | (refine pw_block ?_) | (refine pw_skip ?_) | (refine pw_ret ?_) | (refine pw_exit ?_) | (refine pr_nil ?_) | (refine pq_seq ?_) | (refine pq_then_ret ?_) | (refine pq_then_exit ?_) | (refine pq_block_normal ?_) | (refine pq_block_ret ?_) | (refine pq_block_here ?_) | (refine pq_block_far rfl ?_) | (refine pw_cond_t rfl ?_) | (refine pw_cond_f rfl ?_) | (refine hK _ _ ?_; clear K hK)) | ((first | (refine pr_move rfl (by decide) ?_) | (refine pr_assign rfl (by decide) ?_) | (refine pr_bin rfl rfl rfl (by decide) ?_) | (refine pr_len TT rfl rfl rfl (by decide) ?_) | (refine pr_iaddr TT rfl rfl rfl rfl rfl (by omega) (by omega) (by decide) ?_) | (refine pr_faddr TT rfl rfl rfl rfl (by decide) (by decide) ?_)) <;> (try simp only [DV.zv, Int.toNat_natCast, List.set_cons_zero, List.set_cons_succ, dec_lt_self]))))
      rintro a w ⟨h2, h3, h4, vs', g1, g2, g3, g4⟩
      rw [List.take_length] at h4
      rw [mixD_n] at g2
      refine ⟨.inr rfl, h4 4 _ rfl, h3, ⟨_, cap, by simp [mkL_len], by simpa [mkL_len] using hcap, .inr ⟨b, vs', bs', rfl, rfl, g3, g1, ?_, treeLL_flat.2 g2⟩⟩, g4⟩
      intro x hx
      obtain ⟨y, _, rfl⟩ := List.mem_map.1 hx
      exact (fun _ => rfl) y
theorem heldT_ok (l : List Thing) (k : Int) (H0 : 0 ≤ k) (H1 : k + cnL cT l ≤ 1000000000000000) : Gives Tryz.prog 19 [LT (mkL fT cT l k), I k] (I (k + cnL cT l)) := by
  refine ac_of_body TT Tryz.call19 Tryz.func19 rfl (by simp [Tryz.ntmps19]) (by kernel_rfl) fun E hk => ?_
  (repeat' (first | with_reducible (first | refine awp_seq ?_ | refine awp_block ?_ | refine awp_skip ?_ | refine awp_exit ?_ | refine awp_ret ?_ | refine athen_normal ?_ | refine athen_ret ?_ | refine athen_exit ?_ | refine ablock_normal ?_ | refine ablock_ret ?_ | refine ablock_here ?_ | refine ablock_far rfl ?_ | (refine hK _ ?_; clear K hK) | refine awp_cond_t rfl ?_ | refine awp_cond_f rfl ?_ | intro hfact) | (with_reducible refine And.intro ?_ ?_; focus (first | assumption | omega | (simp; done) | ((repeat' apply And.intro) <;> first | assumption | omega) | ((repeat' split) <;> omega))) | ((first | with_reducible (first | ((refine awp_seqr TT ?_); intro K hK) | ((refine awp_region TT ?_); intro K hK) | ((refine awp_seqrF TT [] MX (by kernel_rfl) (by kernel_rfl) ?_); intro K hK) | ((refine awp_regionF TT [] MX (by kernel_rfl) (by kernel_rfl) ?_); intro K hK)) | (with_reducible (first | refine guard_split_t TT E (fun hb => ?_) (fun hb => ?_) | refine guard_split_f TT E (fun hb => ?_) (fun hb => ?_) | refine guardD_split_t TT _ _ (fun hb => ?_) (fun hb => ?_) | refine guardD_split_f TT _ _ (fun hb => ?_) (fun hb => ?_)) <;> try simp only [hb]) | ((first | refine callK_pure TT E (heldI_ok _ _ (by first | assumption | omega | (refine (?_ : (0 : Int) ≤ _ → _) ?_ <;> first | assumption | omega) | (simp; done) | (simp; omega)) (by first | assumption | omega | (refine (?_ : (0 : Int) ≤ _ → _) ?_ <;> first | assumption | omega) | (simp; done) | (simp; omega))) rfl rfl ?_ | refine callKD_pure TT _ _ (heldI_ok _ _ (by first | assumption | omega | (refine (?_ : (0 : Int) ≤ _ → _) ?_ <;> first | assumption | omega) | (simp; done) | (simp; omega)) (by first | assumption | omega | (refine (?_ : (0 : Int) ≤ _ → _) ?_ <;> first | assumption | omega) | (simp; done) | (simp; omega))) rfl rfl ?_); intro m hm; try dsimp only at hm) | ((first | refine callK_pure TT E (heldF_ok _ _ (by first | assumption | omega | (refine (?_ : (0 : Int) ≤ _ → _) ?_ <;> first | assumption | omega) | (simp; done) | (simp; omega)) (by first | assumption | omega | (refine (?_ : (0 : Int) ≤ _ → _) ?_ <;> first | assumption | omega) | (simp; done) | (simp; omega))) rfl rfl ?_ | refine callKD_pure TT _ _ (heldF_ok _ _ (by first | assumption | omega | (refine (?_ : (0 : Int) ≤ _ → _) ?_ <;> first | assumption | omega) | (simp; done) | (simp; omega)) (by first | assumption | omega | (refine (?_ : (0 : Int) ≤ _ → _) ?_ <;> first | assumption | omega) | (simp; done) | (simp; omega))) rfl rfl ?_); intro m hm; try dsimp only at hm)) <;> simp only [go_sem, ↓reduceIte, Int.reduceBEq, Int.reduceBNe, Nat.reduceEqDiff, Nat.reduceAdd, Nat.reduceMul, Nat.reduceSub, Nat.reduceLT, Nat.reduceBEq, Nat.reduceLeDiff, reduceCtorEq, Int.reduceToNat, Int.reduceNeg, Int.reduceEq, Int.reduceLE, Int.reduceLT])))
  refine awp_zip (mkL fT cT l k) (List.length (mkL fT cT l k)) 0 [] [0] (fun j s => [(1, I s.1), (5, I j)]) (fun obs j s => obs) (fun j s => []) (fun j rest s nt => rest = mkL fT cT s.2 s.1 ∧ s.1 + cnL cT s.2 = k + cnL cT l ∧ 0 ≤ s.1) ((k, l)) (by first | rfl | (simp; done) | (simp; omega)) (by first | rfl | (simp only [go_sem, ↓reduceIte, Nat.reduceEqDiff, Nat.reduceAdd, Nat.reduceLT, Nat.reduceLeDiff, reduceCtorEq]; done) | (simp only [go_sem, ↓reduceIte, Nat.reduceEqDiff, Nat.reduceAdd, Nat.reduceLT, Nat.reduceLeDiff, reduceCtorEq]; simp; done)) (by simp only [go_sem, ↓reduceIte, Nat.reduceEqDiff, Nat.reduceAdd, Nat.reduceLT, Nat.reduceLeDiff, reduceCtorEq]; rfl) (by first | rfl | (simp only [go_sem, ↓reduceIte, Nat.reduceEqDiff, Nat.reduceAdd, Nat.reduceLT, Nat.reduceLeDiff, reduceCtorEq]; rfl)) (⟨rfl, rfl, H0⟩) (by unfold ASubW; simp only [go_sem, ↓reduceIte, Nat.reduceEqDiff, Nat.reduceAdd, Nat.reduceLT, Nat.reduceLeDiff, reduceCtorEq, hk]; try simp) ?_ ?_
  · rintro ⟨kk, r⟩ nt hmax ⟨h1, h2, h3⟩
    cases r with
    | cons y r => simp [mkL] at h1
    | nil =>
      (repeat' (first | with_reducible (first | refine awp_seq ?_ | refine awp_block ?_ | refine awp_skip ?_ | refine awp_exit ?_ | refine awp_ret ?_ | refine athen_normal ?_ | refine athen_ret ?_ | refine athen_exit ?_ | refine ablock_normal ?_ | refine ablock_ret ?_ | refine ablock_here ?_ | refine ablock_far rfl ?_ | (refine hK _ ?_; clear K hK) | refine awp_cond_t rfl ?_ | refine awp_cond_f rfl ?_ | intro hfact) | (with_reducible refine And.intro ?_ ?_; focus (first | assumption | omega | (simp; done) | ((repeat' apply And.intro) <;> first | assumption | omega) | ((repeat' split) <;> omega))) | ((first | with_reducible (first | ((refine awp_seqr TT ?_); intro K hK) | ((refine awp_region TT ?_); intro K hK) | ((refine awp_seqrF TT [] MX (by kernel_rfl) (by kernel_rfl) ?_); intro K hK) | ((refine awp_regionF TT [] MX (by kernel_rfl) (by kernel_rfl) ?_); intro K hK)) | (with_reducible (first | refine guard_split_t TT E (fun hb => ?_) (fun hb => ?_) | refine guard_split_f TT E (fun hb => ?_) (fun hb => ?_) | refine guardD_split_t TT _ _ (fun hb => ?_) (fun hb => ?_) | refine guardD_split_f TT _ _ (fun hb => ?_) (fun hb => ?_)) <;> try simp only [hb]) | ((first | refine callK_pure TT E (heldI_ok _ _ (by first | assumption | omega | (refine (?_ : (0 : Int) ≤ _ → _) ?_ <;> first | assumption | omega) | (simp; done) | (simp; omega)) (by first | assumption | omega | (refine (?_ : (0 : Int) ≤ _ → _) ?_ <;> first | assumption | omega) | (simp; done) | (simp; omega))) rfl rfl ?_ | refine callKD_pure TT _ _ (heldI_ok _ _ (by first | assumption | omega | (refine (?_ : (0 : Int) ≤ _ → _) ?_ <;> first | assumption | omega) | (simp; done) | (simp; omega)) (by first | assumption | omega | (refine (?_ : (0 : Int) ≤ _ → _) ?_ <;> first | assumption | omega) | (simp; done) | (simp; omega))) rfl rfl ?_); intro m hm; try dsimp only at hm) | ((first | refine callK_pure TT E (heldF_ok _ _ (by first | assumption | omega | (refine (?_ : (0 : Int) ≤ _ → _) ?_ <;> first | assumption | omega) | (simp; done) | (simp; omega)) (by first | assumption | omega | (refine (?_ : (0 : Int) ≤ _ → _) ?_ <;> first | assumption | omega) | (simp; done) | (simp; omega))) rfl rfl ?_ | refine callKD_pure TT _ _ (heldF_ok _ _ (by first | assumption | omega | (refine (?_ : (0 : Int) ≤ _ → _) ?_ <;> first | assumption | omega) | (simp; done) | (simp; omega)) (by first | assumption | omega | (refine (?_ : (0 : Int) ≤ _ → _) ?_ <;> first | assumption | omega) | (simp; done) | (simp; omega))) rfl rfl ?_); intro m hm; try dsimp only at hm)) <;> simp only [go_sem, ↓reduceIte, Int.reduceBEq, Int.reduceBNe, Nat.reduceEqDiff, Nat.reduceAdd, Nat.reduceMul, Nat.reduceSub, Nat.reduceLT, Nat.reduceBEq, Nat.reduceLeDiff, reduceCtorEq, Int.reduceToNat, Int.reduceNeg, Int.reduceEq, Int.reduceLE, Int.reduceLT])))
      refine ret_gives TT (by simp only [go_sem, ↓reduceIte, Nat.reduceEqDiff, Nat.reduceAdd, Nat.reduceLT, Nat.reduceLeDiff, reduceCtorEq, Tryz.results19]; rfl) rfl ?_; simp only [resV, cnL] at *; rw [← h2]; simp
  · rintro j x rest ⟨kk, r⟩ nt hA ⟨h1, h2, h3⟩
    cases r with
    | nil => simp [mkL] at h1
    | cons y r =>
      simp only [mkL, List.cons.injEq] at h1
      obtain ⟨hxx, hrest⟩ := h1
      rw [hxx] at hA
      simp only [cnL] at h2; rw [cT_eq] at h2
      dsimp only at h3
      have hn1 := cnL_nn cI (fun _ => (show (0 : Int) ≤ 1 by decide)) y.groups
      have hn2 := cnL_nn cF (fun _ => (show (0 : Int) ≤ 3 by decide)) y.fields
      have hcu := cT_eq y
      have hcr := cnL_nn cT cT_nn r

      (repeat' (first | with_reducible (first | refine awp_seq ?_ | refine awp_block ?_ | refine awp_skip ?_ | refine awp_exit ?_ | refine awp_ret ?_ | refine athen_normal ?_ | refine athen_ret ?_ | refine athen_exit ?_ | refine ablock_normal ?_ | refine ablock_ret ?_ | refine ablock_here ?_ | refine ablock_far rfl ?_ | (refine hK _ ?_; clear K hK) | refine awp_cond_t rfl ?_ | refine awp_cond_f rfl ?_ | intro hfact) | (with_reducible refine And.intro ?_ ?_; focus (first | assumption | omega | (simp; done) | ((repeat' apply And.intro) <;> first | assumption | omega) | ((repeat' split) <;> omega))) | ((first | with_reducible (first | ((refine awp_seqr TT ?_); intro K hK) | ((refine awp_region TT ?_); intro K hK) | ((refine awp_seqrF TT [] MX (by kernel_rfl) (by kernel_rfl) ?_); intro K hK) | ((refine awp_regionF TT [] MX (by kernel_rfl) (by kernel_rfl) ?_); intro K hK)) | (with_reducible (first | refine guard_split_t TT E (fun hb => ?_) (fun hb => ?_) | refine guard_split_f TT E (fun hb => ?_) (fun hb => ?_) | refine guardD_split_t TT _ _ (fun hb => ?_) (fun hb => ?_) | refine guardD_split_f TT _ _ (fun hb => ?_) (fun hb => ?_)) <;> try simp only [hb]) | ((first | refine callK_pure TT E (mtext_ok _ (by omega)) rfl rfl ?_ | refine callKD_pure TT _ _ (mtext_ok _ (by omega)) rfl rfl ?_); intro m hm; try dsimp only at hm) | ((first | refine callK_pure TT E (heldI_ok _ _ (by omega) (by omega)) rfl rfl ?_ | refine callKD_pure TT _ _ (heldI_ok _ _ (by omega) (by omega)) rfl rfl ?_); intro m hm; try dsimp only at hm) | ((first | refine callK_pure TT E (heldF_ok _ _ (by omega) (by omega)) rfl rfl ?_ | refine callKD_pure TT _ _ (heldF_ok _ _ (by omega) (by omega)) rfl rfl ?_); intro m hm; try dsimp only at hm)) <;> simp only [go_sem, ↓reduceIte, Int.reduceBEq, Int.reduceBNe, Nat.reduceEqDiff, Nat.reduceAdd, Nat.reduceMul, Nat.reduceSub, Nat.reduceLT, Nat.reduceBEq, Nat.reduceLeDiff, reduceCtorEq, Int.reduceToNat, Int.reduceNeg, Int.reduceEq, Int.reduceLE, Int.reduceLT, hA.d, hA.w, hA.lt, hA.g, encT, fT, ]) | refine awp_condN rfl (fun hb => ?_) (fun hb => ?_) | refine awp_condP rfl (fun hb => ?_) (fun hb => ?_) | refine awp_cond rfl (fun hb => ?_) (fun hb => ?_)))
      all_goals first | (exfalso; omega) | skip
      refine ⟨(kk + cnL cI y.groups + cnL cF y.fields, r), ⟨by rw [hrest]; (first | rfl | (rw [cT_eq]; congr 1; omega)), by dsimp only; omega, by dsimp only; omega⟩, (by unfold ASubW; simp only [go_sem, ↓reduceIte, Nat.reduceEqDiff, Nat.reduceAdd, Nat.reduceLT, Nat.reduceLeDiff, reduceCtorEq, hk]; try simp)⟩
end Go.Proofs.YtnhfakijgbkadaaGreatDoor
