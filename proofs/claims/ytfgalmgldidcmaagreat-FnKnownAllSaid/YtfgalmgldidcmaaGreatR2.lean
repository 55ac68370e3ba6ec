/- Walks of functions of the cut by the abstract logic, and what they compute. Filled by a program of mine from a template. -/
import Derived.Test.YtfgalmgldidcmaaGreatR1
namespace Go.Proofs.YtfgalmgldidcmaaGreat
open Go Go.AL
set_option linter.unusedSimpArgs false
set_option linter.unusedVariables false

/-- Where a text goes into a list. -/
def insAt (s : List UInt8) : List (List UInt8) → Nat
  | [] => 0
  | x :: l => if Op.bytesLess x s then insAt s l + 1 else 0
def insT (l : List (List UInt8)) (s : List UInt8) : List (List UInt8) := if l[insAt s l]? = some s then l else l.take (insAt s l) ++ [s] ++ l.drop (insAt s l)
theorem insAt_le (s : List UInt8) : ∀ l, insAt s l ≤ l.length
  | [] => by simp [insAt]
  | x :: l => by have := insAt_le s l; rw [insAt]; split <;> simp; omega
theorem insT_len (l : List (List UInt8)) (s : List UInt8) : (insT l s).length ≤ l.length + 1 := by
  have := insAt_le s l
  unfold insT
  split
  · omega
  · simp; omega
theorem insT_mem (l : List (List UInt8)) (s x : List UInt8) : x ∈ insT l s ↔ x ∈ l ∨ x = s := by
  unfold insT
  split
  · rename_i h
    have := List.mem_of_getElem? h
    constructor
    · exact .inl
    · rintro (h | rfl) <;> assumption
  · have h : x ∈ l ↔ x ∈ l.take (insAt s l) ++ l.drop (insAt s l) := by rw [List.take_append_drop]
    rw [h]
    simp only [List.mem_append, List.mem_singleton]
    constructor
    · rintro ((h | h) | h)
      · exact .inl (.inl h)
      · exact .inr h
      · exact .inl (.inr h)
    · rintro ((h | h) | h)
      · exact .inl (.inl h)
      · exact .inr h
      · exact .inl (.inr h)
theorem insAt_s {s x : List UInt8} {l : List (List UInt8)} {k : Nat} (h : l[k]? = some x) (hb : Op.bytesLess x s = true) : insAt s (l.drop k) = insAt s (l.drop (k + 1)) + 1 := by
  obtain ⟨h1, h2⟩ := List.getElem?_eq_some_iff.1 h
  rw [List.drop_eq_getElem_cons h1, h2, insAt, if_pos hb]
theorem insAt_n {s x : List UInt8} {l : List (List UInt8)} {k : Nat} (h : l[k]? = some x) (hb : Op.bytesLess x s = false) : insAt s (l.drop k) = 0 := by
  obtain ⟨h1, h2⟩ := List.getElem?_eq_some_iff.1 h
  rw [List.drop_eq_getElem_cons h1, h2, insAt, if_neg (by simp [hb])]

theorem er_takeS (n : Nat) (l : List (List UInt8)) : erLL (List.take n (l.map encS)) = List.take n (l.map encS) := by rw [← List.map_take, er_encS]
theorem er_tdS (m n : Nat) (l : List (List UInt8)) : erLL (List.take m (List.drop n (l.map encS))) = List.take m (List.drop n (l.map encS)) := by rw [← List.map_drop, er_takeS]
theorem er_dropS (n : Nat) (l : List (List UInt8)) : erLL (List.drop n (l.map encS)) = List.drop n (l.map encS) := by rw [← List.map_drop, er_encS]
theorem take_dropS (k : Nat) (l : List (List UInt8)) : List.take (l.length - k) (List.drop k (l.map encS)) = List.drop k (l.map encS) := List.take_of_length_le (by simp)
theorem ins_ok (l : List (List UInt8)) (s : List UInt8) (Hl : l.length ≤ 1000000) : Gives Tryz.prog 67 [LS l, S s] (LS (insT l s)) := by
  refine AC.erR ?_
  refine ac_of_body TT Tryz.call67 Tryz.func67 rfl (by simp [Tryz.ntmps67]) (by kernel_rfl) fun E hk => ?_
  (repeat' (first | with_reducible (first | refine awp_seq ?_ | refine awp_block ?_ | refine awp_skip ?_ | refine awp_exit ?_ | refine awp_ret ?_ | refine athen_normal ?_ | refine athen_ret ?_ | refine athen_exit ?_ | refine ablock_normal ?_ | refine ablock_ret ?_ | refine ablock_here ?_ | refine ablock_far rfl ?_ | (refine hK _ ?_; clear K hK) | refine awp_cond_t rfl ?_ | refine awp_cond_f rfl ?_ | intro hfact) | (with_reducible refine And.intro ?_ ?_; focus (first | assumption | omega | (simp; done) | ((repeat' apply And.intro) <;> first | assumption | omega) | ((repeat' split) <;> omega))) | ((first | with_reducible (first | ((refine awp_seqr TT ?_); intro K hK) | ((refine awp_region TT ?_); intro K hK) | ((refine awp_seqrF TT [] MX (by kernel_rfl) (by kernel_rfl) ?_); intro K hK) | ((refine awp_regionF TT [] MX (by kernel_rfl) (by kernel_rfl) ?_); intro K hK)) | (with_reducible (first | refine guard_split_t TT E (fun hb => ?_) (fun hb => ?_) | refine guard_split_f TT E (fun hb => ?_) (fun hb => ?_) | refine guardD_split_t TT _ _ (fun hb => ?_) (fun hb => ?_) | refine guardD_split_f TT _ _ (fun hb => ?_) (fun hb => ?_)) <;> try simp only [hb])) <;> simp only [go_sem, ↓reduceIte, Int.reduceBEq, Int.reduceBNe, Nat.reduceEqDiff, Nat.reduceAdd, Nat.reduceMul, Nat.reduceSub, Nat.reduceLT, Nat.reduceBEq, Nat.reduceLeDiff, reduceCtorEq, Int.reduceToNat, Int.reduceNeg, Int.reduceEq, Int.reduceLE, Int.reduceLT])))
  refine awp_lp [0, 1] (fun k => [(5, I (k : Nat))]) (fun obs k => obs) (fun k => []) (fun k nt => k ≤ l.length ∧ insAt s l = k + insAt s (l.drop k)) (fun k => l.length - k) (0) (by simp only [go_sem, ↓reduceIte, Nat.reduceEqDiff, Nat.reduceAdd, Nat.reduceLT, Nat.reduceLeDiff, reduceCtorEq]; rfl) (by first | rfl | (simp only [go_sem, ↓reduceIte, Nat.reduceEqDiff, Nat.reduceAdd, Nat.reduceLT, Nat.reduceLeDiff, reduceCtorEq]; rfl)) (⟨by omega, by simp⟩) (by unfold ASubW; simp only [go_sem, ↓reduceIte, Nat.reduceEqDiff, Nat.reduceAdd, Nat.reduceLT, Nat.reduceLeDiff, reduceCtorEq, hk]; try simp [LS]) ?_
  rintro k nt ⟨h1, h2⟩
  have hw : IntKind.i64.wrap ((k : Int) + 1) = ((k + 1 : Nat) : Int) := by rw [wrap_id (by omega)]; rfl
  have hmm : (l.map encS).length = l.length := by simp
  have ht1 : (List.take (k - 0) (List.map encS l)).length = k := by simp; omega
  have ht2 : (List.take (l.length - k) (List.drop k (List.map encS l))).length = l.length - k := by simp
  by_cases hlt : k < l.length
  · obtain ⟨x, hx⟩ : ∃ x, l[k]? = some x := ⟨l[k], List.getElem?_eq_getElem hlt⟩
    have hg : pickL (l.map encS) k = [.str x] := pickL_get (by rw [List.getElem?_map, hx]; rfl)
    have hd : decide ((k : Int) < (l.length : Int)) = true := by simp; exact hlt
    cases hb : Op.bytesLess x s
    · have hk : insAt s l = k := by rw [h2, insAt_n hx hb]; rfl
      cases he : (x == s)
      · have hne : l[k]? ≠ some s := by rw [hx]; intro h; simp at h; simp [h] at he
        (repeat' (first | with_reducible (first | refine awp_seq ?_ | refine awp_block ?_ | refine awp_skip ?_ | refine awp_exit ?_ | refine awp_ret ?_ | refine athen_normal ?_ | refine athen_ret ?_ | refine athen_exit ?_ | refine ablock_normal ?_ | refine ablock_ret ?_ | refine ablock_here ?_ | refine ablock_far rfl ?_ | (refine hK _ ?_; clear K hK) | refine awp_cond_t rfl ?_ | refine awp_cond_f rfl ?_ | intro hfact) | (with_reducible refine And.intro ?_ ?_; focus (first | assumption | omega | (simp; done) | ((repeat' apply And.intro) <;> first | assumption | omega) | ((repeat' split) <;> omega))) | ((first | with_reducible (first | ((refine awp_seqr TT ?_); intro K hK) | ((refine awp_region TT ?_); intro K hK) | ((refine awp_seqrF TT [] MX (by kernel_rfl) (by kernel_rfl) ?_); intro K hK) | ((refine awp_regionF TT [] MX (by kernel_rfl) (by kernel_rfl) ?_); intro K hK)) | (with_reducible (first | refine guard_split_t TT E (fun hb => ?_) (fun hb => ?_) | refine guard_split_f TT E (fun hb => ?_) (fun hb => ?_) | refine guardD_split_t TT _ _ (fun hb => ?_) (fun hb => ?_) | refine guardD_split_f TT _ _ (fun hb => ?_) (fun hb => ?_)) <;> try simp only [hb])) <;> simp only [go_sem, ↓reduceIte, Int.reduceBEq, Int.reduceBNe, Nat.reduceEqDiff, Nat.reduceAdd, Nat.reduceMul, Nat.reduceSub, Nat.reduceLT, Nat.reduceBEq, Nat.reduceLeDiff, reduceCtorEq, Int.reduceToNat, Int.reduceNeg, Int.reduceEq, Int.reduceLE, Int.reduceLT, hd, hg, hlt, hb, he, ht1, ht2, List.mem_cons, List.mem_singleton, true_or, or_true, true_and, List.length_append, List.length_cons, List.length_nil])))
        refine ret_givesE TT (by simp only [go_sem, ↓reduceIte, Nat.reduceEqDiff, Nat.reduceAdd, Nat.reduceLT, Nat.reduceLeDiff, reduceCtorEq, Tryz.results67]; rfl) rfl ?_; simp [resV, insT, hk, hne, AV.erR, AV.er, DV.er, er_takeS, er_tdS, er_dropS, take_dropS, er_encS, erLL_append, erLL, erL, DV.er, encS, List.map_take, List.map_drop]
      · have hee : l[k]? = some s := by rw [hx]; simp at he; rw [he]
        (repeat' (first | with_reducible (first | refine awp_seq ?_ | refine awp_block ?_ | refine awp_skip ?_ | refine awp_exit ?_ | refine awp_ret ?_ | refine athen_normal ?_ | refine athen_ret ?_ | refine athen_exit ?_ | refine ablock_normal ?_ | refine ablock_ret ?_ | refine ablock_here ?_ | refine ablock_far rfl ?_ | (refine hK _ ?_; clear K hK) | refine awp_cond_t rfl ?_ | refine awp_cond_f rfl ?_ | intro hfact) | (with_reducible refine And.intro ?_ ?_; focus (first | assumption | omega | (simp; done) | ((repeat' apply And.intro) <;> first | assumption | omega) | ((repeat' split) <;> omega))) | ((first | with_reducible (first | ((refine awp_seqr TT ?_); intro K hK) | ((refine awp_region TT ?_); intro K hK) | ((refine awp_seqrF TT [] MX (by kernel_rfl) (by kernel_rfl) ?_); intro K hK) | ((refine awp_regionF TT [] MX (by kernel_rfl) (by kernel_rfl) ?_); intro K hK)) | (with_reducible (first | refine guard_split_t TT E (fun hb => ?_) (fun hb => ?_) | refine guard_split_f TT E (fun hb => ?_) (fun hb => ?_) | refine guardD_split_t TT _ _ (fun hb => ?_) (fun hb => ?_) | refine guardD_split_f TT _ _ (fun hb => ?_) (fun hb => ?_)) <;> try simp only [hb])) <;> simp only [go_sem, ↓reduceIte, Int.reduceBEq, Int.reduceBNe, Nat.reduceEqDiff, Nat.reduceAdd, Nat.reduceMul, Nat.reduceSub, Nat.reduceLT, Nat.reduceBEq, Nat.reduceLeDiff, reduceCtorEq, Int.reduceToNat, Int.reduceNeg, Int.reduceEq, Int.reduceLE, Int.reduceLT, hd, hg, hlt, hb, he])))
        refine ret_givesE TT (by simp only [go_sem, ↓reduceIte, Nat.reduceEqDiff, Nat.reduceAdd, Nat.reduceLT, Nat.reduceLeDiff, reduceCtorEq, Tryz.results67]; rfl) rfl ?_; simp [resV, insT, hk, hee, AV.erR, AV.er, DV.er, er_encS]
    · (repeat' (first | with_reducible (first | refine awp_seq ?_ | refine awp_block ?_ | refine awp_skip ?_ | refine awp_exit ?_ | refine awp_ret ?_ | refine athen_normal ?_ | refine athen_ret ?_ | refine athen_exit ?_ | refine ablock_normal ?_ | refine ablock_ret ?_ | refine ablock_here ?_ | refine ablock_far rfl ?_ | (refine hK _ ?_; clear K hK) | refine awp_cond_t rfl ?_ | refine awp_cond_f rfl ?_ | intro hfact) | (with_reducible refine And.intro ?_ ?_; focus (first | assumption | omega | (simp; done) | ((repeat' apply And.intro) <;> first | assumption | omega) | ((repeat' split) <;> omega))) | ((first | with_reducible (first | ((refine awp_seqr TT ?_); intro K hK) | ((refine awp_region TT ?_); intro K hK) | ((refine awp_seqrF TT [] MX (by kernel_rfl) (by kernel_rfl) ?_); intro K hK) | ((refine awp_regionF TT [] MX (by kernel_rfl) (by kernel_rfl) ?_); intro K hK)) | (with_reducible (first | refine guard_split_t TT E (fun hb => ?_) (fun hb => ?_) | refine guard_split_f TT E (fun hb => ?_) (fun hb => ?_) | refine guardD_split_t TT _ _ (fun hb => ?_) (fun hb => ?_) | refine guardD_split_f TT _ _ (fun hb => ?_) (fun hb => ?_)) <;> try simp only [hb])) <;> simp only [go_sem, ↓reduceIte, Int.reduceBEq, Int.reduceBNe, Nat.reduceEqDiff, Nat.reduceAdd, Nat.reduceMul, Nat.reduceSub, Nat.reduceLT, Nat.reduceBEq, Nat.reduceLeDiff, reduceCtorEq, Int.reduceToNat, Int.reduceNeg, Int.reduceEq, Int.reduceLE, Int.reduceLT, hd, hg, hlt, hb, hw])))
      refine ⟨k + 1, ⟨by omega, by rw [h2, insAt_s hx hb]; omega⟩, by omega, (by unfold ASubW; simp only [go_sem, ↓reduceIte, Nat.reduceEqDiff, Nat.reduceAdd, Nat.reduceLT, Nat.reduceLeDiff, reduceCtorEq, hk, LS]; try simp)⟩
  · obtain rfl : k = l.length := by omega
    have hk : insAt s l = l.length := by rw [h2]; simp [insAt]
    have hd : decide ((l.length : Int) < (l.length : Int)) = false := by simp
    have hne : l[l.length]? ≠ some s := by simp
    (repeat' (first | with_reducible (first | refine awp_seq ?_ | refine awp_block ?_ | refine awp_skip ?_ | refine awp_exit ?_ | refine awp_ret ?_ | refine athen_normal ?_ | refine athen_ret ?_ | refine athen_exit ?_ | refine ablock_normal ?_ | refine ablock_ret ?_ | refine ablock_here ?_ | refine ablock_far rfl ?_ | (refine hK _ ?_; clear K hK) | refine awp_cond_t rfl ?_ | refine awp_cond_f rfl ?_ | intro hfact) | (with_reducible refine And.intro ?_ ?_; focus (first | assumption | omega | (simp; done) | ((repeat' apply And.intro) <;> first | assumption | omega) | ((repeat' split) <;> omega))) | ((first | with_reducible (first | ((refine awp_seqr TT ?_); intro K hK) | ((refine awp_region TT ?_); intro K hK) | ((refine awp_seqrF TT [] MX (by kernel_rfl) (by kernel_rfl) ?_); intro K hK) | ((refine awp_regionF TT [] MX (by kernel_rfl) (by kernel_rfl) ?_); intro K hK)) | (with_reducible (first | refine guard_split_t TT E (fun hb => ?_) (fun hb => ?_) | refine guard_split_f TT E (fun hb => ?_) (fun hb => ?_) | refine guardD_split_t TT _ _ (fun hb => ?_) (fun hb => ?_) | refine guardD_split_f TT _ _ (fun hb => ?_) (fun hb => ?_)) <;> try simp only [hb])) <;> simp only [go_sem, ↓reduceIte, Int.reduceBEq, Int.reduceBNe, Nat.reduceEqDiff, Nat.reduceAdd, Nat.reduceMul, Nat.reduceSub, Nat.reduceLT, Nat.reduceBEq, Nat.reduceLeDiff, reduceCtorEq, Int.reduceToNat, Int.reduceNeg, Int.reduceEq, Int.reduceLE, Int.reduceLT, hd, ht1, ht2, List.mem_cons, List.mem_singleton, true_or, or_true, true_and, List.length_append, List.length_cons, List.length_nil])))
    refine ret_givesE TT (by simp only [go_sem, ↓reduceIte, Nat.reduceEqDiff, Nat.reduceAdd, Nat.reduceLT, Nat.reduceLeDiff, reduceCtorEq, Tryz.results67]; rfl) rfl ?_; simp [resV, insT, hk, AV.erR, AV.er, DV.er, er_takeS, er_tdS, er_dropS, take_dropS, er_encS, erLL_append, erLL, erL, encS, List.take_of_length_le]

def headT (k : Int) (nm : List UInt8) (l : List (List UInt8)) : List (List UInt8) := if k = 4 then insT l [87] else if k = 5 then insT l [84] else if k = 6 then insT l [65] else if k = 7 then insT l nm else l
mutual
/-- What an expression asks for, put into a list. -/
def askE : Expr → List (List UInt8) → List (List UInt8)
  | .mk k _ nm ps, l => askEs ps (headT k nm l)
def askEs : List Expr → List (List UInt8) → List (List UInt8)
  | [], l => l
  | e :: r, l => askEs r (askE e l)
end
theorem askE_mk (k n : Int) (nm : List UInt8) (ps : List Expr) (l : List (List UInt8)) : askE (.mk k n nm ps) l = askEs ps (headT k nm l) := by rw [askE]
theorem askEs_nil (l : List (List UInt8)) : askEs [] l = l := by rw [askEs]
theorem askEs_cons (e : Expr) (r : List Expr) (l : List (List UInt8)) : askEs (e :: r) l = askEs r (askE e l) := by rw [askEs]
theorem headT_len (k : Int) (nm : List UInt8) (l : List (List UInt8)) : (headT k nm l).length ≤ l.length + 1 := by
  unfold headT
  (repeat' split) <;> first | exact insT_len _ _ | omega
theorem cntEs_cons (e : Expr) (r : List Expr) : cntEs (e :: r) = cntE e + cntEs r := by rw [cntEs]
theorem askEs_len : ∀ (ps : List Expr), (∀ e ∈ ps, ∀ l, (askE e l).length ≤ l.length + cntE e) → ∀ l, (askEs ps l).length ≤ l.length + cntEs ps
  | [], _, l => by rw [askEs_nil]; omega
  | e :: r, h, l => by
    have h1 := h e (by simp) l
    have h2 := askEs_len r (fun x hx => h x (by simp [hx])) (askE e l)
    rw [askEs_cons, cntEs_cons]; omega
theorem askE_len : ∀ (e : Expr) (l : List (List UInt8)), (askE e l).length ≤ l.length + cntE e := by
  intro e
  induction e using Expr.ind with
  | h k n nm ps ih =>
    intro l
    have h1 := headT_len k nm l
    have h2 := askEs_len ps ih (headT k nm l)
    rw [askE_mk, cntE_mk]; omega
theorem asks_ok : ∀ (e : Expr) (l : List (List UInt8)), l.length + cntE e ≤ 1000000 → Gives Tryz.prog 48 [EA e, LS l] (LS (askE e l)) := by
  intro e
  induction e using Expr.ind with
  | h k n nm ps ih =>
  intro l hl
  rw [cntE_mk] at hl
  rw [askE_mk]
  refine AC.erR ?_
  refine ac_of_body TT Tryz.call48 Tryz.func48 rfl (by simp [Tryz.ntmps48]) (by kernel_rfl) fun E hk => ?_
  have hh := headT_len k nm l
  (repeat' (first | with_reducible (first | refine awp_seq ?_ | refine awp_block ?_ | refine awp_skip ?_ | refine awp_exit ?_ | refine awp_ret ?_ | refine athen_normal ?_ | refine athen_ret ?_ | refine athen_exit ?_ | refine ablock_normal ?_ | refine ablock_ret ?_ | refine ablock_here ?_ | refine ablock_far rfl ?_ | (refine hK _ ?_; clear K hK) | refine awp_cond_t rfl ?_ | refine awp_cond_f rfl ?_ | intro hfact) | (with_reducible refine And.intro ?_ ?_; focus (first | assumption | omega | (simp; done) | ((repeat' apply And.intro) <;> first | assumption | omega) | ((repeat' split) <;> omega))) | ((first | with_reducible (first | ((refine awp_seqr TT ?_); intro K hK) | ((refine awp_region TT ?_); intro K hK) | ((refine awp_seqrF TT [] MX (by kernel_rfl) (by kernel_rfl) ?_); intro K hK) | ((refine awp_regionF TT [] MX (by kernel_rfl) (by kernel_rfl) ?_); intro K hK)) | (with_reducible (first | refine guard_split_t TT E (fun hb => ?_) (fun hb => ?_) | refine guard_split_f TT E (fun hb => ?_) (fun hb => ?_) | refine guardD_split_t TT _ _ (fun hb => ?_) (fun hb => ?_) | refine guardD_split_f TT _ _ (fun hb => ?_) (fun hb => ?_)) <;> try simp only [hb]) | ((first | refine callK_pure TT E (ins_ok _ _ (by omega)) rfl rfl ?_ | refine callKD_pure TT _ _ (ins_ok _ _ (by omega)) rfl rfl ?_); intro m hm; try dsimp only at hm) | ((first | refine callK_pure TT E (ins_ok _ _ (by first | assumption | omega | (refine (?_ : (0 : Int) ≤ _ → _) ?_ <;> first | assumption | omega) | (simp; done) | (simp; omega))) rfl rfl ?_ | refine callKD_pure TT _ _ (ins_ok _ _ (by first | assumption | omega | (refine (?_ : (0 : Int) ≤ _ → _) ?_ <;> first | assumption | omega) | (simp; done) | (simp; omega))) rfl rfl ?_); intro m hm; try dsimp only at hm)) <;> simp only [go_sem, ↓reduceIte, Int.reduceBEq, Int.reduceBNe, Nat.reduceEqDiff, Nat.reduceAdd, Nat.reduceMul, Nat.reduceSub, Nat.reduceLT, Nat.reduceBEq, Nat.reduceLeDiff, reduceCtorEq, Int.reduceToNat, Int.reduceNeg, Int.reduceEq, Int.reduceLE, Int.reduceLT, Expr.kind, Expr.number, Expr.name, Expr.parts]) | refine awp_condN rfl (fun hb => ?_) (fun hb => ?_) | refine awp_condP rfl (fun hb => ?_) (fun hb => ?_) | refine awp_cond rfl (fun hb => ?_) (fun hb => ?_)))
  all_goals (
    obtain ⟨l0, hl0, hl1⟩ : ∃ l0, l0 = headT k nm l ∧ l0.length ≤ l.length + 1 := ⟨_, rfl, hh⟩
    rw [← hl0]
    first
      | (have hq : insT l [87] = l0 := by rw [hl0]; simp_all [headT])
      | (have hq : insT l [84] = l0 := by rw [hl0]; simp_all [headT])
      | (have hq : insT l [65] = l0 := by rw [hl0]; simp_all [headT])
      | (have hq : insT l nm = l0 := by rw [hl0]; simp_all [headT])
      | (have hq : l = l0 := by rw [hl0]; simp_all [headT])
    rw [hq]
    refine awp_zip (ps) (List.length (ps)) 0 [(0, 3)] [2] (fun j a => [(1, LS a), (5, I j)]) (fun obs j a => obs) (fun j a => []) (fun j rest a nt => askEs rest a = askEs ps l0 ∧ a.length + cntEs rest ≤ 1000000) (l0) (by first | rfl | (simp; done) | (simp; omega)) (by first | rfl | (simp only [go_sem, ↓reduceIte, Nat.reduceEqDiff, Nat.reduceAdd, Nat.reduceLT, Nat.reduceLeDiff, reduceCtorEq, Expr.parts]; done) | (simp only [go_sem, ↓reduceIte, Nat.reduceEqDiff, Nat.reduceAdd, Nat.reduceLT, Nat.reduceLeDiff, reduceCtorEq, Expr.parts]; simp [Expr.parts]; done)) (by simp only [go_sem, ↓reduceIte, Nat.reduceEqDiff, Nat.reduceAdd, Nat.reduceLT, Nat.reduceLeDiff, reduceCtorEq]; rfl) (by first | rfl | (simp only [go_sem, ↓reduceIte, Nat.reduceEqDiff, Nat.reduceAdd, Nat.reduceLT, Nat.reduceLeDiff, reduceCtorEq]; rfl)) (⟨rfl, by omega⟩) (by unfold ASubW; simp only [go_sem, ↓reduceIte, Nat.reduceEqDiff, Nat.reduceAdd, Nat.reduceLT, Nat.reduceLeDiff, reduceCtorEq, hk]; try simp [LS]) ?_ ?_
    · rintro a nt hmax ⟨hi1, hi2⟩
      (repeat' (first | with_reducible (first | refine awp_seq ?_ | refine awp_block ?_ | refine awp_skip ?_ | refine awp_exit ?_ | refine awp_ret ?_ | refine athen_normal ?_ | refine athen_ret ?_ | refine athen_exit ?_ | refine ablock_normal ?_ | refine ablock_ret ?_ | refine ablock_here ?_ | refine ablock_far rfl ?_ | (refine hK _ ?_; clear K hK) | refine awp_cond_t rfl ?_ | refine awp_cond_f rfl ?_ | intro hfact) | (with_reducible refine And.intro ?_ ?_; focus (first | assumption | omega | (simp; done) | ((repeat' apply And.intro) <;> first | assumption | omega) | ((repeat' split) <;> omega))) | ((first | with_reducible (first | ((refine awp_seqr TT ?_); intro K hK) | ((refine awp_region TT ?_); intro K hK) | ((refine awp_seqrF TT [] MX (by kernel_rfl) (by kernel_rfl) ?_); intro K hK) | ((refine awp_regionF TT [] MX (by kernel_rfl) (by kernel_rfl) ?_); intro K hK)) | (with_reducible (first | refine guard_split_t TT E (fun hb => ?_) (fun hb => ?_) | refine guard_split_f TT E (fun hb => ?_) (fun hb => ?_) | refine guardD_split_t TT _ _ (fun hb => ?_) (fun hb => ?_) | refine guardD_split_f TT _ _ (fun hb => ?_) (fun hb => ?_)) <;> try simp only [hb]) | ((first | refine callK_pure TT E (ins_ok _ _ (by first | assumption | omega | (refine (?_ : (0 : Int) ≤ _ → _) ?_ <;> first | assumption | omega) | (simp; done) | (simp; omega))) rfl rfl ?_ | refine callKD_pure TT _ _ (ins_ok _ _ (by first | assumption | omega | (refine (?_ : (0 : Int) ≤ _ → _) ?_ <;> first | assumption | omega) | (simp; done) | (simp; omega))) rfl rfl ?_); intro m hm; try dsimp only at hm)) <;> simp only [go_sem, ↓reduceIte, Int.reduceBEq, Int.reduceBNe, Nat.reduceEqDiff, Nat.reduceAdd, Nat.reduceMul, Nat.reduceSub, Nat.reduceLT, Nat.reduceBEq, Nat.reduceLeDiff, reduceCtorEq, Int.reduceToNat, Int.reduceNeg, Int.reduceEq, Int.reduceLE, Int.reduceLT])))
      refine ret_givesE TT (by simp only [go_sem, ↓reduceIte, Nat.reduceEqDiff, Nat.reduceAdd, Nat.reduceLT, Nat.reduceLeDiff, reduceCtorEq, Tryz.results48]; rfl) rfl ?_; simp [resV, ← hi1, askEs_nil, AV.erR, AV.er, DV.er, er_encS]
    · rintro j x rest a nt hA ⟨hi1, hi2⟩
      rw [askEs_cons] at hi1
      rw [cntEs_cons] at hi2
      have hlx := askE_len x a
      (repeat' (first | with_reducible (first | refine awp_seq ?_ | refine awp_block ?_ | refine awp_skip ?_ | refine awp_exit ?_ | refine awp_ret ?_ | refine athen_normal ?_ | refine athen_ret ?_ | refine athen_exit ?_ | refine ablock_normal ?_ | refine ablock_ret ?_ | refine ablock_here ?_ | refine ablock_far rfl ?_ | (refine hK _ ?_; clear K hK) | refine awp_cond_t rfl ?_ | refine awp_cond_f rfl ?_ | intro hfact) | (with_reducible refine And.intro ?_ ?_; focus (first | assumption | omega | (simp; done) | ((repeat' apply And.intro) <;> first | assumption | omega) | ((repeat' split) <;> omega))) | ((first | with_reducible (first | ((refine awp_seqr TT ?_); intro K hK) | ((refine awp_region TT ?_); intro K hK) | ((refine awp_seqrF TT [] MX (by kernel_rfl) (by kernel_rfl) ?_); intro K hK) | ((refine awp_regionF TT [] MX (by kernel_rfl) (by kernel_rfl) ?_); intro K hK)) | (with_reducible (first | refine guard_split_t TT E (fun hb => ?_) (fun hb => ?_) | refine guard_split_f TT E (fun hb => ?_) (fun hb => ?_) | refine guardD_split_t TT _ _ (fun hb => ?_) (fun hb => ?_) | refine guardD_split_f TT _ _ (fun hb => ?_) (fun hb => ?_)) <;> try simp only [hb]) | ((first | refine callK_pure TT E (ih x hA.mem a (by omega)) rfl rfl ?_ | refine callKD_pure TT _ _ (ih x hA.mem a (by omega)) rfl rfl ?_); intro m hm; try dsimp only at hm) | ((first | refine callK_pure TT E (ins_ok _ _ (by first | assumption | omega | (refine (?_ : (0 : Int) ≤ _ → _) ?_ <;> first | assumption | omega) | (simp; done) | (simp; omega))) rfl rfl ?_ | refine callKD_pure TT _ _ (ins_ok _ _ (by first | assumption | omega | (refine (?_ : (0 : Int) ≤ _ → _) ?_ <;> first | assumption | omega) | (simp; done) | (simp; omega))) rfl rfl ?_); intro m hm; try dsimp only at hm)) <;> simp only [go_sem, ↓reduceIte, Int.reduceBEq, Int.reduceBNe, Nat.reduceEqDiff, Nat.reduceAdd, Nat.reduceMul, Nat.reduceSub, Nat.reduceLT, Nat.reduceBEq, Nat.reduceLeDiff, reduceCtorEq, Int.reduceToNat, Int.reduceNeg, Int.reduceEq, Int.reduceLE, Int.reduceLT, hA.d, hA.w, hA.lt, hA.g, encE_eq])))
      refine ⟨askE x a, ⟨hi1, by omega⟩, (by unfold ASubW; simp only [go_sem, ↓reduceIte, Nat.reduceEqDiff, Nat.reduceAdd, Nat.reduceLT, Nat.reduceLeDiff, reduceCtorEq, hk, LS]; try simp)⟩)
end Go.Proofs.YtfgalmgldidcmaaGreat
