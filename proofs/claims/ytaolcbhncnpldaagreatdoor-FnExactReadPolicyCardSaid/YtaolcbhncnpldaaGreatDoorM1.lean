/- Walks of functions of the cut by the abstract logic, and what they compute. Filled by a program of mine from a template. -/
import Derived.Test.YtaolcbhncnpldaaGreatDoorM0
import Derived.Test.YtaolcbhncnpldaaGreatDoorE2
namespace Go.Proofs.YtaolcbhncnpldaaGreatDoor
open Go Go.AL
set_option linter.unusedSimpArgs false
set_option linter.unusedVariables false
/-! ### Things, requests, expressions, policies -/
def fT (t : Thing) (k : Int) : Thing := ⟨mkL fI cI t.groups k, mkL fF cF t.fields (k + cnL cI t.groups)⟩
def cT (t : Thing) : Int := cnL cI t.groups + cnL cF t.fields
def fQ (t : Request) (k : Int) : Request := ⟨k, k + 1, k + 1 + 1, mkL fF cF t.fields (k + 1 + 1 + 1)⟩
def cQ (t : Request) : Int := 3 + cnL cF t.fields
mutual
def cE : Expr → Int
  | .mk _ _ _ ps => 3 + cEs ps
def cEs : List Expr → Int
  | [] => 0
  | e :: l => cE e + cEs l
end
mutual
def fE : Expr → Int → Expr
  | .mk _ _ _ ps, k => .mk k (k + 1) (mtx (k + 1 + 1)) (fEs ps (k + 1 + 1 + 1))
def fEs : List Expr → Int → List Expr
  | [], _ => []
  | e :: l, k => fE e k :: fEs l (k + cE e)
end
theorem cEs_eq : ∀ l : List Expr, cEs l = cnL cE l
  | [] => by simp [cEs, cnL]
  | e :: l => by simp only [cEs, cnL, cEs_eq l]
theorem fEs_eq : ∀ (l : List Expr) (k : Int), fEs l k = mkL fE cE l k
  | [], k => by simp [fEs, mkL]
  | e :: l, k => by simp only [fEs, mkL, fEs_eq l]
theorem cE_eq (e : Expr) : cE e = 3 + cnL cE e.parts := by cases e; rw [cE, cEs_eq]; rfl
theorem fE_eq (e : Expr) (k : Int) : fE e k = .mk k (k + 1) (mtx (k + 1 + 1)) (mkL fE cE e.parts (k + 1 + 1 + 1)) := by cases e; rw [fE, fEs_eq]; rfl
theorem encE_fE (e : Expr) (k : Int) : encE (fE e k) = [.int .i64 k, .int .i64 (k + 1), .str (mtx (k + 1 + 1)), .sl 4 ((mkL fE cE e.parts (k + 1 + 1 + 1)).map encE) .no] := by rw [fE_eq, encE_mk]
theorem cE_nn (e : Expr) : 0 ≤ cE e := by
  induction e using Expr.ind with
  | h k n nm ps ih =>
    rw [cE_eq]
    have key : ∀ l : List Expr, (∀ x ∈ l, 0 ≤ cE x) → 0 ≤ cnL cE l := by
      intro l
      induction l with
      | nil => intro _; simp [cnL]
      | cons x l ihl => intro h; have h1 := h x (by simp); have h2 := ihl fun y hy => h y (by simp [hy]); simp only [cnL]; omega
    have := key ps ih
    simp only [Expr.parts]
    omega
theorem cntEs_in {l : List Expr} {x : Expr} (h : x ∈ l) : cntEs x.parts < cntEs l := by
  have h1 := cntEs_mem h
  have : cntEs x.parts < cntE x := by cases x; rw [cntE_mk]; simp only [Expr.parts]; omega
  omega
theorem cE_cnt (e : Expr) : cE e = 3 * (cntE e : Int) := by
  induction e using Expr.ind with
  | h k n nm ps ih =>
    rw [cE_eq, cntE_mk]
    have key : ∀ l : List Expr, (∀ x ∈ l, cE x = 3 * (cntE x : Int)) → cnL cE l = 3 * (cntEs l : Int) := by
      intro l
      induction l with
      | nil => intro _; simp [cnL, cntEs]
      | cons x l ihl => intro h; have h1 := h x (by simp); have h2 := ihl fun y hy => h y (by simp [hy]); simp only [cnL, cntEs]; omega
    have := key ps ih
    simp only [Expr.parts]
    omega
theorem cEs_cnt (l : List Expr) : cnL cE l = 3 * (cntEs l : Int) := by
  induction l with
  | nil => simp [cnL, cntEs]
  | cons x l ih => simp only [cnL, cntEs, cE_cnt, ih]; omega
abbrev LPm (l : List Policy) : AV := .d (.sl 9 (l.map encPolicy) .no)
def fP (p : Policy) (k : Int) : Policy := ⟨mtx k, ((k + 1).tmod 3 == 0), k + 1 + 1, k + 1 + 1 + 1, k + 1 + 1 + 1 + 1, .mk (k + 1 + 1 + 1 + 1 + 1) (k + 1 + 1 + 1 + 1 + 1 + 1) (mtx (k + 1 + 1 + 1 + 1 + 1 + 1 + 1)) (mkL fE cE p.when.parts (k + 1 + 1 + 1 + 1 + 1 + 1 + 1 + 1))⟩
def cP (p : Policy) : Int := 8 + cnL cE p.when.parts
set_option maxHeartbeats 4000000 in
set_option maxRecDepth 100000 in
theorem markE_all : ∀ (n : Nat) (l : List Expr), cntEs l ≤ n → ∀ (k : Int), 0 ≤ k → k + cnL cE l ≤ 1000000000000000 → MarkF Tryz.prog 64 (LE l) (LE (mkL fE cE l k)) k (k + cnL cE l) := by
  intro n
  induction n using Nat.strongRecOn with
  | _ n ih =>
  intro l hln k h0 h1
  refine mark_of_body (rt := 4) Tryz.call64 Tryz.func64 rfl rfl Tryz.ntmps64 (by decide) fun w0 v bs hT => ?_
  simp only [TreeA, TreeV] at hT
  obtain ⟨a, cap, rfl, hcap, hx⟩ := hT
  rw [List.length_map] at *
  rcases hx with ⟨hnil, rfl⟩ | ⟨b, vs, bs', rfl, rfl, hbn, hcell, hsz, hll⟩
  · obtain rfl : l = [] := by simpa using hnil
    (repeat' (first | with_reducible (first | (refine pw_seqrK ?_; intro K hK) | (refine pw_regionK ?_; intro K hK) | (refine pw_seq ?_) | (refine pw_block ?_) | (refine pw_skip ?_) | (refine pw_ret ?_) | (refine pw_exit ?_) | (refine pr_nil ?_) | (refine pq_seq ?_) | (refine pq_then_ret ?_) | (refine pq_then_exit ?_) | (refine pq_block_normal ?_) | (refine pq_block_ret ?_) | (refine pq_block_here ?_) | (refine pq_block_far rfl ?_) | (refine pw_cond_t rfl ?_) | (refine pw_cond_f rfl ?_) | (refine hK _ _ ?_; clear K hK)) | ((first | (refine pr_move rfl (by decide) ?_) | (refine pr_assign rfl (by decide) ?_) | (refine pr_bin rfl rfl rfl (by decide) ?_) | (refine pr_len TT rfl rfl rfl (by decide) ?_) | (refine pr_iaddr TT rfl rfl rfl rfl rfl (by omega) (by omega) (by decide) ?_) | (refine pr_faddr TT rfl rfl rfl rfl (by decide) (by decide) ?_)) <;> (try simp only [DV.zv, Int.toNat_natCast, List.set_cons_zero, List.set_cons_succ]))))
    refine pw_sub (env' := [(0, .slice a 0 cap), (1, .int .i64 k), (5, .int .i64 (0 : Nat))]) (by simp [getP]) (fun w h => h) ?_
    refine pw_loop 0 5 (fun i => [(0, .slice a 0 cap), (1, .int .i64 k), (5, .int .i64 i)]) (fun _ w => w = w0) (fun i => rfl) ⟨rfl, rfl⟩ fun i hi => ?_
    obtain rfl : i = 0 := by omega
    (repeat' (first | with_reducible (first | (refine pw_seqrK ?_; intro K hK) | (refine pw_regionK ?_; intro K hK) | (refine pw_seq ?_) | (refine pw_block ?_) | (refine pw_skip ?_) | (refine pw_ret ?_) | (refine pw_exit ?_) | (refine pr_nil ?_) | (refine pq_seq ?_) | (refine pq_then_ret ?_) | (refine pq_then_exit ?_) | (refine pq_block_normal ?_) | (refine pq_block_ret ?_) | (refine pq_block_here ?_) | (refine pq_block_far rfl ?_) | (refine pw_cond_t rfl ?_) | (refine pw_cond_f rfl ?_) | (refine hK _ _ ?_; clear K hK)) | ((first | (refine pr_move rfl (by decide) ?_) | (refine pr_assign rfl (by decide) ?_) | (refine pr_bin rfl rfl rfl (by decide) ?_) | (refine pr_len TT rfl rfl rfl (by decide) ?_) | (refine pr_iaddr TT rfl rfl rfl rfl rfl (by omega) (by omega) (by decide) ?_) | (refine pr_faddr TT rfl rfl rfl rfl (by decide) (by decide) ?_)) <;> (try simp only [DV.zv, Int.toNat_natCast, List.set_cons_zero, List.set_cons_succ, dec_lt_self]))))
    rintro a w ⟨h2, h3, h4, rfl⟩
    exact ⟨.inr rfl, by rw [h4 4 _ rfl]; simp [cnL], h3, ⟨_, cap, rfl, hcap, .inl ⟨rfl, rfl⟩⟩, FrameW.refl _ _⟩
  · have hM0 : MT w0 (b :: bs') b bs' (mixD encE fE cE l k 0) w0 := ⟨vs, hcell, by rw [mixD_0]; exact treeLL_flat.1 hll, hbn, FrameW.refl _ _⟩
    (repeat' (first | with_reducible (first | (refine pw_seqrK ?_; intro K hK) | (refine pw_regionK ?_; intro K hK) | (refine pw_seq ?_) | (refine pw_block ?_) | (refine pw_skip ?_) | (refine pw_ret ?_) | (refine pw_exit ?_) | (refine pr_nil ?_) | (refine pq_seq ?_) | (refine pq_then_ret ?_) | (refine pq_then_exit ?_) | (refine pq_block_normal ?_) | (refine pq_block_ret ?_) | (refine pq_block_here ?_) | (refine pq_block_far rfl ?_) | (refine pw_cond_t rfl ?_) | (refine pw_cond_f rfl ?_) | (refine hK _ _ ?_; clear K hK)) | ((first | (refine pr_move rfl (by decide) ?_) | (refine pr_assign rfl (by decide) ?_) | (refine pr_bin rfl rfl rfl (by decide) ?_) | (refine pr_len TT rfl rfl rfl (by decide) ?_) | (refine pr_iaddr TT rfl rfl rfl rfl rfl (by omega) (by omega) (by decide) ?_) | (refine pr_faddr TT rfl rfl rfl rfl (by decide) (by decide) ?_)) <;> (try simp only [DV.zv, Int.toNat_natCast, List.set_cons_zero, List.set_cons_succ]))))
    refine pw_sub (env' := [(0, .slice (some ⟨b, 0, none⟩) l.length cap), (1, .int .i64 (k + cnL cE (l.take 0))), (5, .int .i64 (0 : Nat))]) (by simp [getP, cnL]) (M' := MT w0 (b :: bs') b bs' (mixD encE fE cE l k 0)) (fun w h => h ▸ hM0) ?_
    refine pw_loop l.length 5 (fun i => [(0, .slice (some ⟨b, 0, none⟩) l.length cap), (1, .int .i64 (k + cnL cE (l.take i))), (5, .int .i64 i)]) (fun i => MT w0 (b :: bs') b bs' (mixD encE fE cE l k i)) (fun i => rfl) ⟨rfl, rfl⟩ fun i hi => ?_
    by_cases hlt : i < l.length
    · obtain ⟨x, rest, hdr⟩ : ∃ x rest, l.drop i = x :: rest := ⟨l[i], l.drop (i + 1), List.drop_eq_getElem_cons hlt⟩
      obtain ⟨pre, post, hp1, hp2, hp3, hp4⟩ := mixD_at encE fE cE (sz := 4) encE_len k hdr hi
      have hc0 := cnL_nn cE cE_nn (l.take i)
      have hc1 := cnL_split cE hdr
      have hc2 := cnL_nn cE cE_nn rest
      generalize hkk : k + cnL cE (l.take i) = kk
      have hn2 := cnL_nn cE cE_nn x.parts
      have hcu := cE_eq x
      have hlt2 : cntEs x.parts < cntEs l := cntEs_in (by rw [← List.take_append_drop i l, hdr]; simp)
      have hkv : k + cnL cE (l.take (i + 1)) = kk + 1 + 1 + 1 + cnL cE x.parts := by rw [hp4]; rw [cE_eq]; omega
      rw [cE_eq] at hc1
      have hw1 : IntKind.i64.wrap (kk + 1) = kk + 1 := wrap_id (by omega)
      have hw2 : IntKind.i64.wrap (kk + 1 + 1) = kk + 1 + 1 := wrap_id (by omega)
      have hw3 : IntKind.i64.wrap (kk + 1 + 1 + 1) = kk + 1 + 1 + 1 := wrap_id (by omega)
      have hwi : IntKind.i64.wrap ((i : Int) + 1) = ((i + 1 : Nat) : Int) := by rw [wrap_id (by omega)]; omega
      have hdi : decide ((i : Int) < (l.length : Int)) = true := by simp; omega
      have hes : (TT.T 25).size = 4 := rfl
      refine pw_weak (M' := MT w0 (b :: bs') b bs' (pre ++ ([.int .i64 x.kind, .int .i64 x.number, .str x.name, .sl 4 (x.parts.map encE) .no] ++ post))) (fun w h => by rw [hp2] at h; rw [encE_eq] at h; exact h) ?_
      (repeat' (first | with_reducible (first | (refine pw_seqrK ?_; intro K hK) | (refine pw_regionK ?_; intro K hK) | (refine pw_seq ?_) | (refine pw_block ?_) | (refine pw_skip ?_) | (refine pw_ret ?_) | (refine pw_exit ?_) | (refine pr_nil ?_) | (refine pq_seq ?_) | (refine pq_then_ret ?_) | (refine pq_then_exit ?_) | (refine pq_block_normal ?_) | (refine pq_block_ret ?_) | (refine pq_block_here ?_) | (refine pq_block_far rfl ?_) | (refine pw_cond_t rfl ?_) | (refine pw_cond_f rfl ?_) | (refine hK _ _ ?_; clear K hK)) | ((first | (refine pr_move rfl (by decide) ?_) | (refine pr_assign rfl (by decide) ?_) | (refine pr_bin rfl rfl rfl (by decide) ?_) | (refine pr_len TT rfl rfl rfl (by decide) ?_) | (refine pr_iaddr TT rfl rfl rfl rfl rfl (by omega) (by omega) (by decide) ?_) | (refine pr_faddr TT rfl rfl rfl rfl (by decide) (by decide) ?_) | (refine pr_store (j := 0) (c := .int .i64 _) TT rfl rfl rfl rfl (by omega) rfl rfl rfl (by simp) ?_) | (refine pr_store (j := 1) (c := .int .i64 _) TT rfl rfl rfl rfl (by omega) rfl rfl rfl (by simp) ?_) | (refine pr_store (j := 2) (c := .str (mtx _)) TT rfl rfl rfl rfl (by omega) rfl rfl ⟨rfl, mtx_len (by omega)⟩ (by simp) ?_) | (refine pr_pure (args := [_]) (mtextT_ok _ (by omega)) rfl (mrep1 _) (mrepS _) (fun w w' hF h => MT.ext hF h) (by decide) ?_) | (refine pr_inner (j := 3) TT (ih _ (Nat.lt_of_lt_of_le hlt2 hln) x.parts (Nat.le_refl _) (kk + 1 + 1 + 1) (by omega) (by omega)) rfl rfl rfl rfl rfl (by omega) rfl (fun z hz => by simp [hz]) (by decide) rfl ?_ rfl rfl)) <;> (try simp only [DV.zv, Int.toNat_natCast, List.set_cons_zero, List.set_cons_succ, hw1, hw2, hw3, hwi, hdi, hes]))))
      refine pq_then fun a w hs => ⟨hlt, hs.sub (by simp [getP, hkv]) (fun w h => ?_)⟩
      show MT _ _ _ _ (mixD encE fE cE l k (i + 1)) w
      rw [hp3, hkk]
      rw [encE_fE]; exact h
    · obtain rfl : i = l.length := by omega
      (repeat' (first | with_reducible (first | (refine pw_seqrK ?_; intro K hK) | (refine pw_regionK ?_; intro K hK) | (refine pw_seq ?_) | (refine pw_block ?_) | (refine pw_skip ?_) | (refine pw_ret ?_) | (refine pw_exit ?_) | (refine pr_nil ?_) | (refine pq_seq ?_) | (refine pq_then_ret ?_) | (refine pq_then_exit ?_) | (refine pq_block_normal ?_) | (refine pq_block_ret ?_) | (refine pq_block_here ?_) | (refine pq_block_far rfl ?_) | (refine pw_cond_t rfl ?_) | (refine pw_cond_f rfl ?_) | (refine hK _ _ ?_; clear K hK)) | ((first | (refine pr_move rfl (by decide) ?_) | (refine pr_assign rfl (by decide) ?_) | (refine pr_bin rfl rfl rfl (by decide) ?_) | (refine pr_len TT rfl rfl rfl (by decide) ?_) | (refine pr_iaddr TT rfl rfl rfl rfl rfl (by omega) (by omega) (by decide) ?_) | (refine pr_faddr TT rfl rfl rfl rfl (by decide) (by decide) ?_)) <;> (try simp only [DV.zv, Int.toNat_natCast, List.set_cons_zero, List.set_cons_succ, dec_lt_self]))))
      rintro a w ⟨h2, h3, h4, vs', g1, g2, g3, g4⟩
      rw [List.take_length] at h4
      rw [mixD_n] at g2
      refine ⟨.inr rfl, h4 4 _ rfl, h3, ⟨_, cap, by simp [mkL_len], by simpa [mkL_len] using hcap, .inr ⟨b, vs', bs', rfl, rfl, g3, g1, ?_, treeLL_flat.2 g2⟩⟩, g4⟩
      intro x hx
      obtain ⟨y, _, rfl⟩ := List.mem_map.1 hx
      exact encE_len y
theorem markE_ok (l : List Expr) (k : Int) (h0 : 0 ≤ k) (h1 : k + cnL cE l ≤ 1000000000000000) : MarkF Tryz.prog 64 (LE l) (LE (mkL fE cE l k)) k (k + cnL cE l) := markE_all _ l (Nat.le_refl _) k h0 h1
theorem heldE_all : ∀ (n : Nat) (l : List Expr), cntEs l ≤ n → ∀ (k : Int), 0 ≤ k → k + cnL cE l ≤ 1000000000000000 → Gives Tryz.prog 65 [LE (mkL fE cE l k), I k] (I (k + cnL cE l)) := by
  intro n
  induction n using Nat.strongRecOn with
  | _ n ih =>
  intro l hln k H0 H1
  refine ac_of_body TT Tryz.call65 Tryz.func65 rfl (by simp [Tryz.ntmps65]) (by kernel_rfl) fun E hk => ?_
  (repeat' (first | with_reducible (first | refine awp_seq ?_ | refine awp_block ?_ | refine awp_skip ?_ | refine awp_exit ?_ | refine awp_ret ?_ | refine athen_normal ?_ | refine athen_ret ?_ | refine athen_exit ?_ | refine ablock_normal ?_ | refine ablock_ret ?_ | refine ablock_here ?_ | refine ablock_far rfl ?_ | (refine hK _ ?_; clear K hK) | refine awp_cond_t rfl ?_ | refine awp_cond_f rfl ?_ | intro hfact) | (with_reducible refine And.intro ?_ ?_; focus (first | assumption | omega | (simp; done) | ((repeat' apply And.intro) <;> first | assumption | omega) | ((repeat' split) <;> omega))) | ((first | with_reducible (first | ((refine awp_seqr TT ?_); intro K hK) | ((refine awp_region TT ?_); intro K hK) | ((refine awp_seqrF TT [] MX (by kernel_rfl) (by kernel_rfl) ?_); intro K hK) | ((refine awp_regionF TT [] MX (by kernel_rfl) (by kernel_rfl) ?_); intro K hK)) | (with_reducible (first | refine guard_split_t TT E (fun hb => ?_) (fun hb => ?_) | refine guard_split_f TT E (fun hb => ?_) (fun hb => ?_) | refine guardD_split_t TT _ _ (fun hb => ?_) (fun hb => ?_) | refine guardD_split_f TT _ _ (fun hb => ?_) (fun hb => ?_)) <;> try simp only [hb]) | ((first | refine callK_pure TT E (mtext_ok _ (by first | assumption | omega | (refine (?_ : (0 : Int) ≤ _ → _) ?_ <;> first | assumption | omega) | (simp; done) | (simp; omega))) rfl rfl ?_ | refine callKD_pure TT _ _ (mtext_ok _ (by first | assumption | omega | (refine (?_ : (0 : Int) ≤ _ → _) ?_ <;> first | assumption | omega) | (simp; done) | (simp; omega))) rfl rfl ?_); intro m hm; try dsimp only at hm)) <;> simp only [go_sem, ↓reduceIte, Int.reduceBEq, Int.reduceBNe, Nat.reduceEqDiff, Nat.reduceAdd, Nat.reduceMul, Nat.reduceSub, Nat.reduceLT, Nat.reduceBEq, Nat.reduceLeDiff, reduceCtorEq, Int.reduceToNat, Int.reduceNeg, Int.reduceEq, Int.reduceLE, Int.reduceLT])))
  refine awp_zip (mkL fE cE l k) (List.length (mkL fE cE l k)) 0 [] [0] (fun j s => [(1, I s.1), (5, I j)]) (fun obs j s => obs) (fun j s => []) (fun j rest s nt => cntEs s.2 ≤ cntEs l ∧ rest = mkL fE cE s.2 s.1 ∧ s.1 + cnL cE s.2 = k + cnL cE l ∧ 0 ≤ s.1) ((k, l)) (by first | rfl | (simp; done) | (simp; omega)) (by first | rfl | (simp only [go_sem, ↓reduceIte, Nat.reduceEqDiff, Nat.reduceAdd, Nat.reduceLT, Nat.reduceLeDiff, reduceCtorEq]; done) | (simp only [go_sem, ↓reduceIte, Nat.reduceEqDiff, Nat.reduceAdd, Nat.reduceLT, Nat.reduceLeDiff, reduceCtorEq]; simp; done)) (by simp only [go_sem, ↓reduceIte, Nat.reduceEqDiff, Nat.reduceAdd, Nat.reduceLT, Nat.reduceLeDiff, reduceCtorEq]; rfl) (by first | rfl | (simp only [go_sem, ↓reduceIte, Nat.reduceEqDiff, Nat.reduceAdd, Nat.reduceLT, Nat.reduceLeDiff, reduceCtorEq]; rfl)) (⟨Nat.le_refl _, rfl, rfl, H0⟩) (by unfold ASubW; simp only [go_sem, ↓reduceIte, Nat.reduceEqDiff, Nat.reduceAdd, Nat.reduceLT, Nat.reduceLeDiff, reduceCtorEq, hk]; try simp) ?_ ?_
  · rintro ⟨kk, r⟩ nt hmax ⟨hcs, h1, h2, h3⟩
    cases r with
    | cons y r => simp [mkL] at h1
    | nil =>
      (repeat' (first | with_reducible (first | refine awp_seq ?_ | refine awp_block ?_ | refine awp_skip ?_ | refine awp_exit ?_ | refine awp_ret ?_ | refine athen_normal ?_ | refine athen_ret ?_ | refine athen_exit ?_ | refine ablock_normal ?_ | refine ablock_ret ?_ | refine ablock_here ?_ | refine ablock_far rfl ?_ | (refine hK _ ?_; clear K hK) | refine awp_cond_t rfl ?_ | refine awp_cond_f rfl ?_ | intro hfact) | (with_reducible refine And.intro ?_ ?_; focus (first | assumption | omega | (simp; done) | ((repeat' apply And.intro) <;> first | assumption | omega) | ((repeat' split) <;> omega))) | ((first | with_reducible (first | ((refine awp_seqr TT ?_); intro K hK) | ((refine awp_region TT ?_); intro K hK) | ((refine awp_seqrF TT [] MX (by kernel_rfl) (by kernel_rfl) ?_); intro K hK) | ((refine awp_regionF TT [] MX (by kernel_rfl) (by kernel_rfl) ?_); intro K hK)) | (with_reducible (first | refine guard_split_t TT E (fun hb => ?_) (fun hb => ?_) | refine guard_split_f TT E (fun hb => ?_) (fun hb => ?_) | refine guardD_split_t TT _ _ (fun hb => ?_) (fun hb => ?_) | refine guardD_split_f TT _ _ (fun hb => ?_) (fun hb => ?_)) <;> try simp only [hb]) | ((first | refine callK_pure TT E (mtext_ok _ (by first | assumption | omega | (refine (?_ : (0 : Int) ≤ _ → _) ?_ <;> first | assumption | omega) | (simp; done) | (simp; omega))) rfl rfl ?_ | refine callKD_pure TT _ _ (mtext_ok _ (by first | assumption | omega | (refine (?_ : (0 : Int) ≤ _ → _) ?_ <;> first | assumption | omega) | (simp; done) | (simp; omega))) rfl rfl ?_); intro m hm; try dsimp only at hm)) <;> simp only [go_sem, ↓reduceIte, Int.reduceBEq, Int.reduceBNe, Nat.reduceEqDiff, Nat.reduceAdd, Nat.reduceMul, Nat.reduceSub, Nat.reduceLT, Nat.reduceBEq, Nat.reduceLeDiff, reduceCtorEq, Int.reduceToNat, Int.reduceNeg, Int.reduceEq, Int.reduceLE, Int.reduceLT])))
      refine ret_gives TT (by simp only [go_sem, ↓reduceIte, Nat.reduceEqDiff, Nat.reduceAdd, Nat.reduceLT, Nat.reduceLeDiff, reduceCtorEq, Tryz.results65]; rfl) rfl ?_; simp only [resV, cnL] at *; rw [← h2]; simp
  · rintro j x rest ⟨kk, r⟩ nt hA ⟨hcs, h1, h2, h3⟩
    cases r with
    | nil => simp [mkL] at h1
    | cons y r =>
      simp only [mkL, List.cons.injEq] at h1
      obtain ⟨hxx, hrest⟩ := h1
      rw [hxx] at hA
      simp only [cnL] at h2; rw [cE_eq] at h2
      dsimp only at h3
      have hn2 := cnL_nn cE cE_nn y.parts
      have hcu := cE_eq y
      simp only [cntEs] at hcs
      have hlt2 : cntEs y.parts < cntEs l := by have : cntEs y.parts < cntE y := (by cases y; rw [cntE_mk]; simp only [Expr.parts]; omega); omega
      have hcr := cnL_nn cE cE_nn r
      have hw1 : IntKind.i64.wrap (kk + 1) = kk + 1 := wrap_id (by omega)
      have hw2 : IntKind.i64.wrap (kk + 1 + 1) = kk + 1 + 1 := wrap_id (by omega)
      have hw3 : IntKind.i64.wrap (kk + 1 + 1 + 1) = kk + 1 + 1 + 1 := wrap_id (by omega)
      (repeat' (first | with_reducible (first | refine awp_seq ?_ | refine awp_block ?_ | refine awp_skip ?_ | refine awp_exit ?_ | refine awp_ret ?_ | refine athen_normal ?_ | refine athen_ret ?_ | refine athen_exit ?_ | refine ablock_normal ?_ | refine ablock_ret ?_ | refine ablock_here ?_ | refine ablock_far rfl ?_ | (refine hK _ ?_; clear K hK) | refine awp_cond_t rfl ?_ | refine awp_cond_f rfl ?_ | intro hfact) | (with_reducible refine And.intro ?_ ?_; focus (first | assumption | omega | (simp; done) | ((repeat' apply And.intro) <;> first | assumption | omega) | ((repeat' split) <;> omega))) | ((first | with_reducible (first | ((refine awp_seqr TT ?_); intro K hK) | ((refine awp_region TT ?_); intro K hK) | ((refine awp_seqrF TT [] MX (by kernel_rfl) (by kernel_rfl) ?_); intro K hK) | ((refine awp_regionF TT [] MX (by kernel_rfl) (by kernel_rfl) ?_); intro K hK)) | (with_reducible (first | refine guard_split_t TT E (fun hb => ?_) (fun hb => ?_) | refine guard_split_f TT E (fun hb => ?_) (fun hb => ?_) | refine guardD_split_t TT _ _ (fun hb => ?_) (fun hb => ?_) | refine guardD_split_f TT _ _ (fun hb => ?_) (fun hb => ?_)) <;> try simp only [hb]) | ((first | refine callK_pure TT E (mtext_ok _ (by omega)) rfl rfl ?_ | refine callKD_pure TT _ _ (mtext_ok _ (by omega)) rfl rfl ?_); intro m hm; try dsimp only at hm) | ((first | refine callK_pure TT E (ih _ (Nat.lt_of_lt_of_le hlt2 hln) y.parts (Nat.le_refl _) (kk + 1 + 1 + 1) (by omega) (by omega)) rfl rfl ?_ | refine callKD_pure TT _ _ (ih _ (Nat.lt_of_lt_of_le hlt2 hln) y.parts (Nat.le_refl _) (kk + 1 + 1 + 1) (by omega) (by omega)) rfl rfl ?_); intro m hm; try dsimp only at hm)) <;> simp only [go_sem, ↓reduceIte, Int.reduceBEq, Int.reduceBNe, Nat.reduceEqDiff, Nat.reduceAdd, Nat.reduceMul, Nat.reduceSub, Nat.reduceLT, Nat.reduceBEq, Nat.reduceLeDiff, reduceCtorEq, Int.reduceToNat, Int.reduceNeg, Int.reduceEq, Int.reduceLE, Int.reduceLT, hA.d, hA.w, hA.lt, hA.g, encE_fE, hw1, hw2, hw3, ]) | refine awp_condN rfl (fun hb => ?_) (fun hb => ?_) | refine awp_condP rfl (fun hb => ?_) (fun hb => ?_) | refine awp_cond rfl (fun hb => ?_) (fun hb => ?_)))
      all_goals first | (exfalso; omega) | skip
      refine ⟨(kk + 1 + 1 + 1 + cnL cE y.parts, r), ⟨by dsimp only; omega, by rw [hrest]; (first | rfl | (rw [cE_eq]; congr 1; omega)), by dsimp only; omega, by dsimp only; omega⟩, (by unfold ASubW; simp only [go_sem, ↓reduceIte, Nat.reduceEqDiff, Nat.reduceAdd, Nat.reduceLT, Nat.reduceLeDiff, reduceCtorEq, hk]; try simp)⟩
theorem heldE_ok (l : List Expr) (k : Int) (h0 : 0 ≤ k) (h1 : k + cnL cE l ≤ 1000000000000000) : Gives Tryz.prog 65 [LE (mkL fE cE l k), I k] (I (k + cnL cE l)) := heldE_all _ l (Nat.le_refl _) k h0 h1
end Go.Proofs.YtaolcbhncnpldaaGreatDoor
