/- Walks of functions of the cut by the abstract logic, and what they compute. Filled by a program of mine from a template. -/
import Derived.Test.YtfgalmgldidcmaaGreatR6
import Derived.Test.YtfgalmgldidcmaaGreatCoreE
namespace Go.Proofs.YtfgalmgldidcmaaGreat
open Go Go.AL
set_option linter.unusedSimpArgs false
set_option linter.unusedVariables false
/-! ### What an expression asks for, collected by a closure -/
def headA (e : Expr) : List (List UInt8) := if e.kind = 4 then [[87]] else if e.kind = 5 then [[84]] else if e.kind = 6 then [[65]] else if e.kind = 7 then [e.name] else []
theorem headA_len (e : Expr) : (headA e).length ≤ 1 := by unfold headA; (repeat' split) <;> simp
mutual
def accE : Expr → List (List UInt8)
  | .mk k n nm ps => accEs ps ++ headA (.mk k n nm ps)
def accEs : List Expr → List (List UInt8)
  | [] => []
  | e :: l => accE e ++ accEs l
end
theorem accE_mk (k n : Int) (nm : List UInt8) (ps : List Expr) : accE (.mk k n nm ps) = accEs ps ++ headA (.mk k n nm ps) := by rw [accE]
theorem accEs_nil : accEs [] = [] := by rw [accEs]
theorem accEs_cons (e : Expr) (l : List Expr) : accEs (e :: l) = accE e ++ accEs l := by rw [accEs]
theorem accEs_len : ∀ (l : List Expr), (∀ e ∈ l, (accE e).length ≤ cntE e) → (accEs l).length ≤ cntEs l
  | [], _ => by simp [accEs_nil]
  | e :: l, h => by
    have h1 := h e (by simp)
    have h2 := accEs_len l fun x hx => h x (by simp [hx])
    rw [accEs_cons, cntEs_cons, List.length_append]; omega
theorem accE_len : ∀ e, (accE e).length ≤ cntE e := by
  intro e
  induction e using Expr.ind with
  | h k n nm ps ih =>
    have h1 := accEs_len ps ih
    have h2 := headA_len (.mk k n nm ps)
    rw [accE_mk, cntE_mk, List.length_append]; omega
/-- With all names that it asks for known, nothing is unknown. -/
theorem unkEs_acc {ks : List (List UInt8)} : ∀ (ps : List Expr), (∀ e ∈ ps, (∀ x ∈ accE e, knows ks x = true) → unkE ks e = false) → (∀ x ∈ accEs ps, knows ks x = true) → anyEs (unkQ ks) ps = false
  | [], _, _ => anyEs_nil _
  | e :: l, h, hx => by
    rw [accEs_cons] at hx
    have h1 := h e (by simp) fun x hm => hx x (List.mem_append.2 (.inl hm))
    have h2 := unkEs_acc l (fun y hy => h y (by simp [hy])) fun x hm => hx x (List.mem_append.2 (.inr hm))
    rw [anyEs_cons, h2]
    unfold unkE at h1
    rw [h1]; rfl
theorem unkE_acc {ks : List (List UInt8)} : ∀ e, (∀ x ∈ accE e, knows ks x = true) → unkE ks e = false := by
  intro e
  induction e using Expr.ind with
  | h k n nm ps ih =>
    intro hx
    rw [accE_mk] at hx
    have h1 := unkEs_acc ps ih fun x hm => hx x (List.mem_append.2 (.inl hm))
    unfold unkE
    rw [anyE_mk, h1]
    by_cases hk : k = 7
    · have := hx nm (List.mem_append.2 (.inr (by simp [headA, Expr.kind, Expr.name, hk])))
      simp [unkQ, Expr.kind, Expr.name, this]
    · simp [unkQ, Expr.kind, hk]
/-- A list that the call may append to. -/
def ownZ (l : List (List UInt8)) (own : Own) : Prop := (own = .full ∧ l = []) ∨ ∃ t, own = .tok t
theorem ownZ_tok {l : List (List UInt8)} (t : Nat) : ownZ l (.tok t) := .inr ⟨t, rfl⟩
theorem ownZ_ok {l : List (List UInt8)} {own : Own} (h : ownZ l own) : ownOK own (tkOf own) := by
  rcases h with ⟨rfl, _⟩ | ⟨t, rfl⟩
  · trivial
  · simp [ownOK, tkOf]
theorem ownZ_lt {l : List (List UInt8)} {own : Own} {n : Nat} (h : ownZ l own) (ht : ∀ t ∈ tkOf own, t < n) : ownLt own n := by
  rcases h with ⟨rfl, _⟩ | ⟨t, rfl⟩
  · trivial
  · exact ht t (by simp [tkOf])
def AskR (l : List (List UInt8)) : Nat → AV → List AO → List Nat → Nat → Prop := fun n _ o t m => ∃ own : Own, o = [.cells [.sl 1 (l.map encS) own]] ∧ t = tkOf own ∧ ownLt own m ∧ ownZ l own ∧ n ≤ m
theorem ask1_ok (e : Expr) (l : List (List UInt8)) (own : Own) (hl : l.length ≤ 1000000) (hy : ownZ l own) : ACT Tryz.prog 52 [EA e, .ptr 0 0] [.cells [.sl 1 (l.map encS) own]] (tkOf own) (AskR (l ++ headA e)) := by
  refine act_of_body TT Tryz.call52 Tryz.func52 rfl (by simp [Tryz.ntmps52]) (by kernel_rfl) fun E hk => ?_
  refine awp_tokLt fun htl => ?_
  dsimp only at htl
  have ho := ownZ_ok hy
  have hol := ownZ_lt hy htl
  (repeat' (first | with_reducible (first | refine awp_seq ?_ | refine awp_block ?_ | refine awp_skip ?_ | refine awp_exit ?_ | refine awp_ret ?_ | refine athen_normal ?_ | refine athen_ret ?_ | refine athen_exit ?_ | refine ablock_normal ?_ | refine ablock_ret ?_ | refine ablock_here ?_ | refine ablock_far rfl ?_ | (refine hK _ ?_; clear K hK) | refine awp_cond_t rfl ?_ | refine awp_cond_f rfl ?_ | intro hfact) | (with_reducible refine And.intro ?_ ?_; focus (first | assumption | omega | (simp; done) | ((repeat' apply And.intro) <;> first | assumption | omega) | ((repeat' split) <;> omega))) | ((first | with_reducible (first | ((refine awp_seqr TT ?_); intro K hK) | ((refine awp_region TT ?_); intro K hK) | ((refine awp_seqrF TT [] MX (by kernel_rfl) (by kernel_rfl) ?_); intro K hK) | ((refine awp_regionF TT [] MX (by kernel_rfl) (by kernel_rfl) ?_); intro K hK)) | (with_reducible (first | refine guard_split_t TT E (fun hb => ?_) (fun hb => ?_) | refine guard_split_f TT E (fun hb => ?_) (fun hb => ?_) | refine guardD_split_t TT _ _ (fun hb => ?_) (fun hb => ?_) | refine guardD_split_f TT _ _ (fun hb => ?_) (fun hb => ?_)) <;> try simp only [hb])) <;> simp only [go_sem, ↓reduceIte, Int.reduceBEq, Int.reduceBNe, Nat.reduceEqDiff, Nat.reduceAdd, Nat.reduceMul, Nat.reduceSub, Nat.reduceLT, Nat.reduceBEq, Nat.reduceLeDiff, reduceCtorEq, Int.reduceToNat, Int.reduceNeg, Int.reduceEq, Int.reduceLE, Int.reduceLT]) | refine awp_condN rfl (fun hb => ?_) (fun hb => ?_) | refine awp_condP rfl (fun hb => ?_) (fun hb => ?_) | refine awp_cond rfl (fun hb => ?_) (fun hb => ?_)))
  all_goals first
    | (refine ret_Rn TT (m := 1) (toks := [E.nt0]) (vs := []) rfl (by simp) (by simp) rfl ⟨.tok E.nt0, ?_, rfl, Nat.lt_succ_self _, ownZ_tok _, Nat.le_succ _⟩; simp_all [headA, encS]; done)
    | (refine ret_Rn TT (m := 1) (toks := tkOf own) (vs := []) rfl (by simp) (fun t ht => ht) rfl ⟨own, ?_, rfl, hol, ?_, Nat.le_refl _⟩
       · simp_all [headA, encS]
       · have hh : headA e = [] := by simp_all [headA]
         rw [hh, List.append_nil]; exact hy)
theorem each_acc : ∀ (e : Expr) (l : List (List UInt8)) (own : Own), ownZ l own → (l ++ accE e).length ≤ 1000000 → ACT Tryz.prog 39 [EA e, .fn 52 [0]] [.cells [.sl 1 (l.map encS) own]] (tkOf own) (AskR (l ++ accE e)) := by
  intro e
  induction e using Expr.ind with
  | h k n nm ps ih =>
  intro l own hy hl
  refine act_of_body TT Tryz.call39 Tryz.func39 rfl (by simp [Tryz.ntmps39]) (by kernel_rfl) fun E hk => ?_
  refine awp_tokLt fun htl => ?_
  dsimp only at htl
  have hol := ownZ_lt hy htl
  rw [accE_mk, ← List.append_assoc] at hl
  (repeat' (first | with_reducible (first | refine awp_seq ?_ | refine awp_block ?_ | refine awp_skip ?_ | refine awp_exit ?_ | refine awp_ret ?_ | refine athen_normal ?_ | refine athen_ret ?_ | refine athen_exit ?_ | refine ablock_normal ?_ | refine ablock_ret ?_ | refine ablock_here ?_ | refine ablock_far rfl ?_ | (refine hK _ ?_; clear K hK) | refine awp_cond_t rfl ?_ | refine awp_cond_f rfl ?_ | intro hfact) | (with_reducible refine And.intro ?_ ?_; focus (first | assumption | omega | (simp; done) | ((repeat' apply And.intro) <;> first | assumption | omega) | ((repeat' split) <;> omega))) | ((first | with_reducible (first | ((refine awp_seqr TT ?_); intro K hK) | ((refine awp_region TT ?_); intro K hK) | ((refine awp_seqrF TT [] MX (by kernel_rfl) (by kernel_rfl) ?_); intro K hK) | ((refine awp_regionF TT [] MX (by kernel_rfl) (by kernel_rfl) ?_); intro K hK)) | (with_reducible (first | refine guard_split_t TT E (fun hb => ?_) (fun hb => ?_) | refine guard_split_f TT E (fun hb => ?_) (fun hb => ?_) | refine guardD_split_t TT _ _ (fun hb => ?_) (fun hb => ?_) | refine guardD_split_f TT _ _ (fun hb => ?_) (fun hb => ?_)) <;> try simp only [hb])) <;> simp only [go_sem, ↓reduceIte, Int.reduceBEq, Int.reduceBNe, Nat.reduceEqDiff, Nat.reduceAdd, Nat.reduceMul, Nat.reduceSub, Nat.reduceLT, Nat.reduceBEq, Nat.reduceLeDiff, reduceCtorEq, Int.reduceToNat, Int.reduceNeg, Int.reduceEq, Int.reduceLE, Int.reduceLT, Expr.kind, Expr.number, Expr.name, Expr.parts])))
  refine awp_zip (ps) (List.length (ps)) 7 [] [1, 2, 7, 8] (fun j s => [(9, I j)]) (fun obs j s => [.cells [.sl 1 (s.1.map encS) s.2], .cells [.int .i64 k, .int .i64 n, .str nm, .sl 4 (ps.map encE) .no]]) (fun j s => tkOf s.2) (fun j rest s nt => ownZ s.1 s.2 ∧ ownLt s.2 nt ∧ s.1 ++ accEs rest = l ++ accEs ps ∧ E.nt0 ≤ nt) ((l, own)) (by first | rfl | (simp; done) | (simp; omega)) (by first | rfl | (simp only [go_sem, ↓reduceIte, Nat.reduceEqDiff, Nat.reduceAdd, Nat.reduceLT, Nat.reduceLeDiff, reduceCtorEq]; done) | (simp only [go_sem, ↓reduceIte, Nat.reduceEqDiff, Nat.reduceAdd, Nat.reduceLT, Nat.reduceLeDiff, reduceCtorEq]; simp; done)) (by simp only [go_sem, ↓reduceIte, Nat.reduceEqDiff, Nat.reduceAdd, Nat.reduceLT, Nat.reduceLeDiff, reduceCtorEq]; rfl) (by first | rfl | (simp only [go_sem, ↓reduceIte, Nat.reduceEqDiff, Nat.reduceAdd, Nat.reduceLT, Nat.reduceLeDiff, reduceCtorEq]; rfl)) (⟨hy, by first | exact hol | exact ownLt_mono hol (by dsimp only; omega), rfl, by first | exact Nat.le_refl _ | (dsimp only; omega)⟩) (by unfold ASubW; simp only [go_sem, ↓reduceIte, Nat.reduceEqDiff, Nat.reduceAdd, Nat.reduceLT, Nat.reduceLeDiff, reduceCtorEq, hk]; try simp [tkOf]) ?_ ?_
  · rintro ⟨l2, own2⟩ nt hmax ⟨i1, i2, i3, i4⟩
    dsimp only at i1 i2 i3 i4
    rw [accEs_nil, List.append_nil] at i3
    have hl2 : l2.length ≤ 1000000 := by rw [i3]; rw [List.length_append] at hl; omega
    (repeat' (first | with_reducible (first | refine awp_seq ?_ | refine awp_block ?_ | refine awp_skip ?_ | refine awp_exit ?_ | refine awp_ret ?_ | refine athen_normal ?_ | refine athen_ret ?_ | refine athen_exit ?_ | refine ablock_normal ?_ | refine ablock_ret ?_ | refine ablock_here ?_ | refine ablock_far rfl ?_ | (refine hK _ ?_; clear K hK) | refine awp_cond_t rfl ?_ | refine awp_cond_f rfl ?_ | intro hfact) | (with_reducible refine And.intro ?_ ?_; focus (first | assumption | omega | (simp; done) | ((repeat' apply And.intro) <;> first | assumption | omega) | ((repeat' split) <;> omega))) | ((first | with_reducible (first | ((refine awp_seqr TT ?_); intro K hK) | ((refine awp_region TT ?_); intro K hK) | ((refine awp_seqrF TT [] MX (by kernel_rfl) (by kernel_rfl) ?_); intro K hK) | ((refine awp_regionF TT [] MX (by kernel_rfl) (by kernel_rfl) ?_); intro K hK)) | (with_reducible (first | refine guard_split_t TT E (fun hb => ?_) (fun hb => ?_) | refine guard_split_f TT E (fun hb => ?_) (fun hb => ?_) | refine guardD_split_t TT _ _ (fun hb => ?_) (fun hb => ?_) | refine guardD_split_f TT _ _ (fun hb => ?_) (fun hb => ?_)) <;> try simp only [hb]) | (refine callK_acT TT E [0] (tkOf own2) (ask1_ok (.mk k n nm ps) l2 own2 hl2 i1) trivial (fun t h => h) rfl rfl rfl (by decide) ?_; rintro r os ts m ⟨own3, rfl, rfl, h1, h2, h3⟩)) <;> simp only [go_sem, ↓reduceIte, Int.reduceBEq, Int.reduceBNe, Nat.reduceEqDiff, Nat.reduceAdd, Nat.reduceMul, Nat.reduceSub, Nat.reduceLT, Nat.reduceBEq, Nat.reduceLeDiff, reduceCtorEq, Int.reduceToNat, Int.reduceNeg, Int.reduceEq, Int.reduceLE, Int.reduceLT])))
    dsimp only at h3
    refine ret_Rn TT (m := 1) (toks := tkOf own3) (vs := []) rfl (by simp) (by intro t ht; simp [ht]) rfl ⟨own3, ?_, rfl, h1, ?_, by (try dsimp only at *); omega⟩
    · rw [accE_mk, ← List.append_assoc, ← i3]; simp
    · rw [accE_mk, ← List.append_assoc, ← i3]; exact h2
  · rintro j x rest ⟨l2, own2⟩ nt hA ⟨i1, i2, i3, i4⟩
    dsimp only at i1 i2 i3 i4
    rw [accEs_cons, ← List.append_assoc] at i3
    have hl2 : (l2 ++ accE x).length ≤ 1000000 := by
      have := congrArg List.length i3
      rw [List.length_append] at this hl
      omega
    (repeat' (first | with_reducible (first | refine awp_seq ?_ | refine awp_block ?_ | refine awp_skip ?_ | refine awp_exit ?_ | refine awp_ret ?_ | refine athen_normal ?_ | refine athen_ret ?_ | refine athen_exit ?_ | refine ablock_normal ?_ | refine ablock_ret ?_ | refine ablock_here ?_ | refine ablock_far rfl ?_ | (refine hK _ ?_; clear K hK) | refine awp_cond_t rfl ?_ | refine awp_cond_f rfl ?_ | intro hfact) | (with_reducible refine And.intro ?_ ?_; focus (first | assumption | omega | (simp; done) | ((repeat' apply And.intro) <;> first | assumption | omega) | ((repeat' split) <;> omega))) | ((first | with_reducible (first | ((refine awp_seqr TT ?_); intro K hK) | ((refine awp_region TT ?_); intro K hK) | ((refine awp_seqrF TT [] MX (by kernel_rfl) (by kernel_rfl) ?_); intro K hK) | ((refine awp_regionF TT [] MX (by kernel_rfl) (by kernel_rfl) ?_); intro K hK)) | (with_reducible (first | refine guard_split_t TT E (fun hb => ?_) (fun hb => ?_) | refine guard_split_f TT E (fun hb => ?_) (fun hb => ?_) | refine guardD_split_t TT _ _ (fun hb => ?_) (fun hb => ?_) | refine guardD_split_f TT _ _ (fun hb => ?_) (fun hb => ?_)) <;> try simp only [hb]) | (refine callK_acT TT E [0] (tkOf own2) (ih x hA.mem l2 own2 i1 hl2) trivial (fun t h => h) rfl rfl rfl (by decide) ?_; rintro r os ts m ⟨own3, rfl, rfl, h1, h2, h3⟩)) <;> simp only [go_sem, ↓reduceIte, Int.reduceBEq, Int.reduceBNe, Nat.reduceEqDiff, Nat.reduceAdd, Nat.reduceMul, Nat.reduceSub, Nat.reduceLT, Nat.reduceBEq, Nat.reduceLeDiff, reduceCtorEq, Int.reduceToNat, Int.reduceNeg, Int.reduceEq, Int.reduceLE, Int.reduceLT, hA.d, hA.w, hA.lt, hA.g, encE_eq])))
    dsimp only at h3
    refine ⟨(l2 ++ accE x, own3), ⟨h2, h1, i3, by (try dsimp only at *); omega⟩, (by unfold ASubW; simp only [go_sem, ↓reduceIte, Nat.reduceEqDiff, Nat.reduceAdd, Nat.reduceLT, Nat.reduceLeDiff, reduceCtorEq, hk]; try simp)⟩
end Go.Proofs.YtfgalmgldidcmaaGreat
