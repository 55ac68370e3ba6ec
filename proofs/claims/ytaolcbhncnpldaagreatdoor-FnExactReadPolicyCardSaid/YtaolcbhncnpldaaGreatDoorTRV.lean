/- Walks of functions of the cut by the abstract logic, and what they compute. Filled by a program of mine from a template. -/
import Derived.Test.YtaolcbhncnpldaaGreatDoorTRU
namespace Go.Proofs.YtaolcbhncnpldaaGreatDoor
open Go Go.AL Go.RowKit
set_option linter.unusedSimpArgs false
set_option linter.unusedVariables false
/-! ### Words before blanks -/
def hasB (s : List UInt8) : Bool := s.any fun b => b == 32
/-- At most so many words before blanks, and what is left. -/
def wordsN : Nat → List UInt8 → List (List UInt8)
  | 0, s => [s]
  | k + 1, s => if hasB s = true then bw s :: wordsN k (br s) else [s]
theorem hasB_f {s : List UInt8} (h : ∀ b ∈ s, b ≠ 32) : hasB s = false := by
  unfold hasB
  rw [List.any_eq_false]
  intro b hb
  simpa using h b hb
theorem hasB_t (p q : List UInt8) : hasB (p ++ 32 :: q) = true := by simp [hasB]
theorem splitK_words : ∀ (k : Nat) (s : List UInt8), Lib.splitK [32] 0 k s = wordsN k s
  | 0, s => rfl
  | k + 1, s => by
    have h1 := Lib.index_one s 32
    rcases ixb 32 s with ⟨h2, h3⟩ | ⟨p, q, rfl, h3, h4⟩
    · rw [h2] at h1
      rw [wordsN, hasB_f h3, if_neg (by decide), Lib.splitK, if_pos (by rw [h1]; rfl)]
    · rw [h4] at h1
      obtain ⟨e1, e2⟩ := bw_app h3 q
      rw [wordsN, hasB_t, if_pos rfl, e1, e2, Lib.splitK, if_neg (by rw [h1, beq_iff_eq]; omega), h1]
      rw [show ((p.length : Nat) : Int).toNat + 0 = p.length by omega, List.take_left' rfl]
      rw [show (p ++ 32 :: q).drop (((p.length : Nat) : Int).toNat + [(32 : UInt8)].length) = q by simp, splitK_words k q]
theorem br_lt {s : List UInt8} (h : hasB s = true) : (br s).length + (bw s).length + 1 = s.length := by
  rcases ixb 32 s with ⟨_, h3⟩ | ⟨p, q, rfl, h3, _⟩
  · rw [hasB_f h3] at h; cases h
  · obtain ⟨e1, e2⟩ := bw_app h3 q
    rw [e1, e2]; simp; omega
theorem wordsN_more : ∀ (k j : Nat) (s : List UInt8), s.length ≤ k → wordsN (k + j) s = wordsN k s
  | 0, j, s, h => by
    obtain rfl : s = [] := List.length_eq_zero_iff.1 (by omega)
    cases j with
    | zero => rfl
    | succ j => rfl
  | k + 1, j, s, h => by
    rw [show k + 1 + j = (k + j) + 1 by omega, wordsN, wordsN]
    by_cases hb : hasB s = true
    · have := br_lt hb
      rw [if_pos hb, if_pos hb, wordsN_more k j (br s) (by omega)]
    · rw [if_neg hb, if_neg hb]
theorem wordsN_le : ∀ (k : Nat) (s : List UInt8), ∀ x ∈ wordsN k s, x.length ≤ s.length
  | 0, s, x, h => by simp [wordsN] at h; rw [h]; exact Nat.le_refl _
  | k + 1, s, x, h => by
    rw [wordsN] at h
    by_cases hb : hasB s = true
    · have h2 := br_lt hb
      rw [if_pos hb] at h
      rcases List.mem_cons.1 h with rfl | h
      · omega
      · have := wordsN_le k (br s) x h; omega
    · rw [if_neg hb] at h
      simp at h; rw [h]; exact Nat.le_refl _
theorem wordsN_len : ∀ (k : Nat) (s : List UInt8), (wordsN k s).length ≤ k + 1
  | 0, s => by simp [wordsN]
  | k + 1, s => by
    rw [wordsN]
    split
    · have := wordsN_len k (br s); simp; omega
    · simp
theorem split6 (s : List UInt8) : Lib.splitK [32] 0 (min 6 (s.length + 1) - 1) s = wordsN 5 s := by
  rw [splitK_words]
  by_cases h : 5 ≤ s.length
  · rw [show min 6 (s.length + 1) - 1 = 5 by omega]
  · have := wordsN_more s.length (5 - s.length) s (Nat.le_refl _)
    rw [show s.length + (5 - s.length) = 5 by omega] at this
    rw [this, show min 6 (s.length + 1) - 1 = s.length by omega]
/-- Are there five blanks? -/
def five (s : List UInt8) : Bool := hasB s && hasB (r0 s) && hasB (r1 s) && hasB (r2 s) && hasB (r3 s)
theorem words_five {s : List UInt8} (h : five s = true) : wordsN 5 s = [bw s, bw (r0 s), bw (r1 s), bw (r2 s), bw (r3 s), r4 s] := by
  simp only [five, Bool.and_eq_true] at h
  obtain ⟨⟨⟨⟨a0, a1⟩, a2⟩, a3⟩, a4⟩ := h
  simp only [r0, r1, r2, r3] at a1 a2 a3 a4
  simp only [wordsN, a0, a1, a2, a3, a4, if_true, r0, r1, r2, r3, r4]
theorem words_few {s : List UInt8} (h : five s = false) : (wordsN 5 s).length < 6 := by
  have l := fun k s => wordsN_len k s
  cases a0 : hasB s
  · simp [wordsN, a0]
  cases a1 : hasB (br s)
  · simp [wordsN, a0, a1]
  cases a2 : hasB (br (br s))
  · simp [wordsN, a0, a1, a2]
  cases a3 : hasB (br (br (br s)))
  · simp [wordsN, a0, a1, a2, a3]
  cases a4 : hasB (br (br (br (br s))))
  · simp [wordsN, a0, a1, a2, a3, a4]
  · simp [five, r0, r1, r2, r3, a0, a1, a2, a3, a4] at h
theorem five_pol {p : Policy} (h : policyB p = true) : five (polT p) = true := by
  obtain ⟨h1, h2, h3, h4, h5⟩ := policyB_iff h
  have e0 := bw_app (effT_blank p.allow) (p.name ++ 32 :: (scopeT p.who ++ 32 :: (scopeT p.what ++ 32 :: (decT p.acts ++ 32 :: exprT p.when))))
  have e1 := bw_app (name_blank h1) (scopeT p.who ++ 32 :: (scopeT p.what ++ 32 :: (decT p.acts ++ 32 :: exprT p.when)))
  have e2 := bw_app (scopeT_blank (n := p.who) (by omega)) (scopeT p.what ++ 32 :: (decT p.acts ++ 32 :: exprT p.when))
  have e3 := bw_app (scopeT_blank (n := p.what) (by omega)) (decT p.acts ++ 32 :: exprT p.when)
  simp only [five, polT, r0, r1, r2, r3, e0.2, e1.2, e2.2, e3.2, hasB_t, Bool.and_self]
theorem rdP_few {s : List UInt8} (h : five s = false) : rdP s = none := rdP_none fun p hp e => by
  rw [← e, five_pol hp] at h; cases h
/-- A policy whose parts were read from the words decides. -/
theorem rdP_dec {s : List UInt8} {P : Policy} (h0 : s ≠ []) (hn : P.name = bw (r0 s)) (ha : P.allow = (bw s == [97, 108, 108, 111, 119])) (hw : ∀ k : Int, -2 ≤ k ∧ k ≤ 6 → scopeT k = bw (r1 s) → P.who = k) (ht : ∀ k : Int, -2 ≤ k ∧ k ≤ 6 → scopeT k = bw (r2 s) → P.what = k) (hc : ∀ k : Int, 0 ≤ k ∧ k ≤ 99 → decT k = bw (r3 s) → P.acts = k) (he : ∀ e, rdE (r4 s) = some e → P.when = e) : rdP s = if policyT P = s then some P else none := by
  by_cases h : policyT P = s
  · rw [if_pos h]
    have hb : policyB P = true := by
      cases hb : policyB P
      · unfold policyT at h; rw [hb] at h; exact absurd h.symm h0
      · rfl
    have : polT P = s := by unfold policyT at h; rw [if_pos hb] at h; exact h
    rw [← this]; exact rdP_text hb
  · rw [if_neg h]
    refine rdP_none fun q hq e => h ?_
    obtain ⟨b0, b1, b2, b3, b4, b5⟩ := pol_words hq
    rw [e] at b0 b1 b2 b3 b4 b5
    obtain ⟨h1, h2, h3, h4, h5⟩ := policyB_iff hq
    have : P = q := by
      obtain ⟨qn, qa, qw, qt, qc, qe⟩ := q
      obtain ⟨pn, pa, pw, pt, pc, pe⟩ := P
      dsimp only at *
      rw [hn, ha, hw qw h2 b2.symm, ht qt (by omega) b3.symm, hc qc (by omega) b4.symm, he qe (by rw [b5]; exact rdE_text h5), b0, b1, effT_eq]
    rw [this]
    unfold policyT
    rw [if_pos hq, e]
abbrev PAt (p : Policy) : AV := .agg [.str p.name, .bool p.allow, .int .i64 p.who, .int .i64 p.what, .int .i64 p.acts, .int .i64 p.when.kind, .int .i64 p.when.number, .str p.when.name, .sl 4 (p.when.parts.map encE) .no]
def zeroP : Policy := ⟨[], false, 0, 0, 0, .mk 0 0 [] []⟩
abbrev rdPA (o : Option Policy) : AV := .tup [PAt (o.getD zeroP), B o.isSome]
theorem splitN_ok (s : List UInt8) (Hs : s.length < 4294967281) : Gives Tryz.prog 32 [S s, S [32], I 6] (LS (wordsN 5 s)) := by
  refine ac_of_calls (R := fun v => v = LS (wordsN 5 s)) Tryz.call32 fun w T I τ ρ vs hG hI hA => ?_
  obtain ⟨x, y, z, rfl, hx, hy, hz⟩ := reps_three hA
  obtain ⟨rfl, hx2⟩ := rep_str hx
  obtain ⟨rfl, hy2⟩ := rep_str hy
  obtain rfl := rep_int hz
  obtain ⟨m, hm⟩ := gMax hG
  have hdat := Lib.splitB_data ⟨[32].toArray⟩ 0 (min 6 (s.length + 1) - 1) ⟨s.toArray⟩
  have key := Tryz.strings_SplitN ⟨s.toArray⟩ ⟨[32].toArray⟩ 6 m w (by simpa [ByteArray.size] using Hs) hm (by simp [ByteArray.size]) (by decide) (by decide)
  rw [show (⟨s.toArray⟩ : ByteArray).size = s.length by simp [ByteArray.size]] at key
  generalize hps : Lib.splitB ⟨[32].toArray⟩ 0 (min 6 (s.length + 1) - 1) ⟨s.toArray⟩ = ps at hdat key
  have hL : ps.map (fun x => x.data.toList) = wordsN 5 s := hdat.trans (split6 s)
  have hlen : ps.length = (wordsN 5 s).length := by rw [← hL, List.length_map]
  have hle : ps.length ≤ min 6 (s.length + 1) := by
    rw [← hps]
    have := Lib.splitB_length_le ⟨[32].toArray⟩ 0 (min 6 (s.length + 1) - 1) ⟨s.toArray⟩
    omega
  refine Calls.mono key fun e w' ⟨h1, h2⟩ => ?_
  subst h2
  have hwl : ∀ x ∈ wordsN 5 s, x.length ≤ s.length := wordsN_le 5 s
  have hb : Below w.heap.size w (w.alloc (.cells (Lib.cellsOf ps (min 6 (s.length + 1))) 9)) := ⟨rfl, rfl, rfl, by simp, fun k hk => halloc_old w _ k hk⟩
  obtain ⟨I', g1, g2⟩ := new_texts (τ := τ) (ρ := ρ) (l := wordsN 5 s) (b := w.heap.size) (cap := min 6 (s.length + 1)) hI hb (Nat.le_refl _) (fun x hx => by have := hwl x hx; omega) (by omega) (by omega) (fun j x hj => by
    rw [World.cell?_alloc_new]
    rw [← hL, List.getElem?_map, Option.map_eq_some_iff] at hj
    obtain ⟨p, hp, rfl⟩ := hj
    obtain ⟨hj2, hj3⟩ := List.getElem?_eq_some_iff.1 hp
    simp [Lib.cellsOf, List.getElem?_append_left, hj2, hj3])
  rw [hlen] at h1
  exact ⟨_, _, I', h1, rfl, hb, g1, g2⟩
/-! ### The program's reader of policies -/
theorem readPolicy_ok (s : List UInt8) (Hs : s.length < 4294967281) : Gives Tryz.prog 11 [S s] (rdPA (rdP s)) := by
  refine AC.erR ?_
  refine ac_of_body TT Tryz.call11 Tryz.func11 rfl (by simp [Tryz.ntmps11]) (by kernel_rfl) fun E hk => ?_
  have hwle := wordsN_le 5 s
  by_cases h5 : five s = true
  · have hw := words_five h5
    have hs0 : s ≠ [] := by rintro rfl; exact absurd h5 (by decide)
    rw [hw] at hwle
    have l2 := hwle (bw (r1 s)) (by simp)
    have l3 := hwle (bw (r2 s)) (by simp)
    have l4 := hwle (bw (r3 s)) (by simp)
    have l5 := hwle (r4 s) (by simp)
    have hdec := @rdP_dec s
    generalize hq0 : bw s = q0 at *
    generalize hq1 : bw (r0 s) = q1 at *
    generalize hq2 : bw (r1 s) = q2 at *
    generalize hq3 : bw (r2 s) = q3 at *
    generalize hq4 : bw (r3 s) = q4 at *
    generalize hq5 : r4 s = q5 at *
    (repeat' (first | with_reducible (first | refine awp_seq ?_ | refine awp_block ?_ | refine awp_skip ?_ | refine awp_exit ?_ | refine awp_ret ?_ | refine athen_normal ?_ | refine athen_ret ?_ | refine athen_exit ?_ | refine ablock_normal ?_ | refine ablock_ret ?_ | refine ablock_here ?_ | refine ablock_far rfl ?_ | (refine hK _ ?_; clear K hK) | refine awp_cond_t rfl ?_ | refine awp_cond_f rfl ?_ | intro hfact) | (with_reducible refine And.intro ?_ ?_; focus (first | assumption | omega | (simp; done) | ((repeat' apply And.intro) <;> first | assumption | omega) | ((repeat' split) <;> omega))) | ((first | with_reducible (first | ((refine awp_seqr TT ?_); intro K hK) | ((refine awp_region TT ?_); intro K hK) | ((refine awp_seqrF TT [] MX (by kernel_rfl) (by kernel_rfl) ?_); intro K hK) | ((refine awp_regionF TT [] MX (by kernel_rfl) (by kernel_rfl) ?_); intro K hK)) | (with_reducible (first | refine guard_split_t TT E (fun hb => ?_) (fun hb => ?_) | refine guard_split_f TT E (fun hb => ?_) (fun hb => ?_) | refine guardD_split_t TT _ _ (fun hb => ?_) (fun hb => ?_) | refine guardD_split_f TT _ _ (fun hb => ?_) (fun hb => ?_)) <;> try simp only [hb]) | (refine callK_pureR TT E (readScope_ok q2) rfl ?_; rintro v2 m2 ⟨n2, b2, rfl, hb2, hn2⟩ hm2) | (refine callK_pureR TT E (readScope_ok q3) rfl ?_; rintro v3 m3 ⟨n3, b3, rfl, hb3, hn3⟩ hm3) | (refine callK_pureR TT E (atoi_any q4 (by omega)) rfl ?_; rintro v4 m4 ⟨n4, rfl, hn4⟩ hm4) | ((first | refine callK_pure TT E (polText_ok _ _ _ _ _ _ _ _ _) rfl rfl ?_ | refine callKD_pure TT _ _ (polText_ok _ _ _ _ _ _ _ _ _) rfl rfl ?_); intro m hm; try dsimp only at hm) | ((first | refine callK_pure TT E (splitN_ok _ (by first | assumption | omega | (refine (?_ : (0 : Int) ≤ _ → _) ?_ <;> first | assumption | omega) | (simp; done) | (simp; omega))) rfl rfl ?_ | refine callKD_pure TT _ _ (splitN_ok _ (by first | assumption | omega | (refine (?_ : (0 : Int) ≤ _ → _) ?_ <;> first | assumption | omega) | (simp; done) | (simp; omega))) rfl rfl ?_); intro m hm; try dsimp only at hm) | ((first | refine callK_pure TT E (readExpr_ok _ (by first | assumption | omega | (refine (?_ : (0 : Int) ≤ _ → _) ?_ <;> first | assumption | omega) | (simp; done) | (simp; omega))) rfl rfl ?_ | refine callKD_pure TT _ _ (readExpr_ok _ (by first | assumption | omega | (refine (?_ : (0 : Int) ≤ _ → _) ?_ <;> first | assumption | omega) | (simp; done) | (simp; omega))) rfl rfl ?_); intro m hm; try dsimp only at hm)) <;> simp only [go_sem, ↓reduceIte, Int.reduceBEq, Int.reduceBNe, Nat.reduceEqDiff, Nat.reduceAdd, Nat.reduceMul, Nat.reduceSub, Nat.reduceLT, Nat.reduceBEq, Nat.reduceLeDiff, reduceCtorEq, Int.reduceToNat, Int.reduceNeg, Int.reduceEq, Int.reduceLE, Int.reduceLT, hw, encS])))
    obtain ⟨P, hP⟩ : ∃ P : Policy, P = ⟨q1, q0 == [97, 108, 108, 111, 119], n2, n3, n4, (rdE q5).getD (.mk 0 0 [] [])⟩ := ⟨_, rfl⟩
    have hd := @hdec P hs0 (by rw [hP]) (by rw [hP]) (fun k hk he => by rw [hP]; exact hn2 k hk he) (fun k hk he => by rw [hP]; exact hn3 k hk he) (fun k hk he => by
      rw [hP]
      have h1 := atoiB_text hk
      rw [he] at h1
      show n4 = k
      rw [hn4 h1, ← he, atoiW_text hk]) (fun e he => by rw [hP]; show (rdE q5).getD (.mk 0 0 [] []) = e; rw [he]; rfl)
    by_cases hT : policyT P = s
    · have hb : (policyT P == s) = true := by simp [hT]
      rw [hP] at hb
      rw [if_pos hT] at hd
      simp only [go_sem, ↓reduceIte, Nat.reduceEqDiff, Nat.reduceAdd, Nat.reduceLT, Nat.reduceLeDiff, reduceCtorEq, hb]
      (repeat' (first | with_reducible (first | refine awp_seq ?_ | refine awp_block ?_ | refine awp_skip ?_ | refine awp_exit ?_ | refine awp_ret ?_ | refine athen_normal ?_ | refine athen_ret ?_ | refine athen_exit ?_ | refine ablock_normal ?_ | refine ablock_ret ?_ | refine ablock_here ?_ | refine ablock_far rfl ?_ | (refine hK _ ?_; clear K hK) | refine awp_cond_t rfl ?_ | refine awp_cond_f rfl ?_ | intro hfact) | (with_reducible refine And.intro ?_ ?_; focus (first | assumption | omega | (simp; done) | ((repeat' apply And.intro) <;> first | assumption | omega) | ((repeat' split) <;> omega))) | ((first | with_reducible (first | ((refine awp_seqr TT ?_); intro K hK) | ((refine awp_region TT ?_); intro K hK) | ((refine awp_seqrF TT [] MX (by kernel_rfl) (by kernel_rfl) ?_); intro K hK) | ((refine awp_regionF TT [] MX (by kernel_rfl) (by kernel_rfl) ?_); intro K hK)) | (with_reducible (first | refine guard_split_t TT E (fun hb => ?_) (fun hb => ?_) | refine guard_split_f TT E (fun hb => ?_) (fun hb => ?_) | refine guardD_split_t TT _ _ (fun hb => ?_) (fun hb => ?_) | refine guardD_split_f TT _ _ (fun hb => ?_) (fun hb => ?_)) <;> try simp only [hb]) | ((first | refine callK_pure TT E (polText_ok _ _ _ _ _ _ _ _ _) rfl rfl ?_ | refine callKD_pure TT _ _ (polText_ok _ _ _ _ _ _ _ _ _) rfl rfl ?_); intro m hm; try dsimp only at hm) | ((first | refine callK_pure TT E (splitN_ok _ (by first | assumption | omega | (refine (?_ : (0 : Int) ≤ _ → _) ?_ <;> first | assumption | omega) | (simp; done) | (simp; omega))) rfl rfl ?_ | refine callKD_pure TT _ _ (splitN_ok _ (by first | assumption | omega | (refine (?_ : (0 : Int) ≤ _ → _) ?_ <;> first | assumption | omega) | (simp; done) | (simp; omega))) rfl rfl ?_); intro m hm; try dsimp only at hm) | ((first | refine callK_pure TT E (readExpr_ok _ (by first | assumption | omega | (refine (?_ : (0 : Int) ≤ _ → _) ?_ <;> first | assumption | omega) | (simp; done) | (simp; omega))) rfl rfl ?_ | refine callKD_pure TT _ _ (readExpr_ok _ (by first | assumption | omega | (refine (?_ : (0 : Int) ≤ _ → _) ?_ <;> first | assumption | omega) | (simp; done) | (simp; omega))) rfl rfl ?_); intro m hm; try dsimp only at hm)) <;> simp only [go_sem, ↓reduceIte, Int.reduceBEq, Int.reduceBNe, Nat.reduceEqDiff, Nat.reduceAdd, Nat.reduceMul, Nat.reduceSub, Nat.reduceLT, Nat.reduceBEq, Nat.reduceLeDiff, reduceCtorEq, Int.reduceToNat, Int.reduceNeg, Int.reduceEq, Int.reduceLE, Int.reduceLT, hb])))
      refine ret_givesE TT (by simp only [go_sem, ↓reduceIte, Nat.reduceEqDiff, Nat.reduceAdd, Nat.reduceLT, Nat.reduceLeDiff, reduceCtorEq, Tryz.results11]; rfl) rfl ?_; rw [hd, hP]; simp [resV, AV.erR, AV.er, erL, DV.er, er_encE]
    · have hb : (policyT P == s) = false := by simpa using hT
      rw [hP] at hb
      rw [if_neg hT] at hd
      simp only [go_sem, ↓reduceIte, Nat.reduceEqDiff, Nat.reduceAdd, Nat.reduceLT, Nat.reduceLeDiff, reduceCtorEq, hb]
      (repeat' (first | with_reducible (first | refine awp_seq ?_ | refine awp_block ?_ | refine awp_skip ?_ | refine awp_exit ?_ | refine awp_ret ?_ | refine athen_normal ?_ | refine athen_ret ?_ | refine athen_exit ?_ | refine ablock_normal ?_ | refine ablock_ret ?_ | refine ablock_here ?_ | refine ablock_far rfl ?_ | (refine hK _ ?_; clear K hK) | refine awp_cond_t rfl ?_ | refine awp_cond_f rfl ?_ | intro hfact) | (with_reducible refine And.intro ?_ ?_; focus (first | assumption | omega | (simp; done) | ((repeat' apply And.intro) <;> first | assumption | omega) | ((repeat' split) <;> omega))) | ((first | with_reducible (first | ((refine awp_seqr TT ?_); intro K hK) | ((refine awp_region TT ?_); intro K hK) | ((refine awp_seqrF TT [] MX (by kernel_rfl) (by kernel_rfl) ?_); intro K hK) | ((refine awp_regionF TT [] MX (by kernel_rfl) (by kernel_rfl) ?_); intro K hK)) | (with_reducible (first | refine guard_split_t TT E (fun hb => ?_) (fun hb => ?_) | refine guard_split_f TT E (fun hb => ?_) (fun hb => ?_) | refine guardD_split_t TT _ _ (fun hb => ?_) (fun hb => ?_) | refine guardD_split_f TT _ _ (fun hb => ?_) (fun hb => ?_)) <;> try simp only [hb]) | ((first | refine callK_pure TT E (polText_ok _ _ _ _ _ _ _ _ _) rfl rfl ?_ | refine callKD_pure TT _ _ (polText_ok _ _ _ _ _ _ _ _ _) rfl rfl ?_); intro m hm; try dsimp only at hm) | ((first | refine callK_pure TT E (splitN_ok _ (by first | assumption | omega | (refine (?_ : (0 : Int) ≤ _ → _) ?_ <;> first | assumption | omega) | (simp; done) | (simp; omega))) rfl rfl ?_ | refine callKD_pure TT _ _ (splitN_ok _ (by first | assumption | omega | (refine (?_ : (0 : Int) ≤ _ → _) ?_ <;> first | assumption | omega) | (simp; done) | (simp; omega))) rfl rfl ?_); intro m hm; try dsimp only at hm) | ((first | refine callK_pure TT E (readExpr_ok _ (by first | assumption | omega | (refine (?_ : (0 : Int) ≤ _ → _) ?_ <;> first | assumption | omega) | (simp; done) | (simp; omega))) rfl rfl ?_ | refine callKD_pure TT _ _ (readExpr_ok _ (by first | assumption | omega | (refine (?_ : (0 : Int) ≤ _ → _) ?_ <;> first | assumption | omega) | (simp; done) | (simp; omega))) rfl rfl ?_); intro m hm; try dsimp only at hm)) <;> simp only [go_sem, ↓reduceIte, Int.reduceBEq, Int.reduceBNe, Nat.reduceEqDiff, Nat.reduceAdd, Nat.reduceMul, Nat.reduceSub, Nat.reduceLT, Nat.reduceBEq, Nat.reduceLeDiff, reduceCtorEq, Int.reduceToNat, Int.reduceNeg, Int.reduceEq, Int.reduceLE, Int.reduceLT, hb])))
      refine ret_givesE TT (by simp only [go_sem, ↓reduceIte, Nat.reduceEqDiff, Nat.reduceAdd, Nat.reduceLT, Nat.reduceLeDiff, reduceCtorEq, Tryz.results11]; rfl) rfl ?_; rw [hd]; simp [resV, zeroP, AV.erR, AV.er, erL, DV.er, erLL, Expr.kind, Expr.number, Expr.name, Expr.parts]
  · have h5' : five s = false := by simpa using h5
    have hf := words_few h5'
    have hr := rdP_few h5'
    have hc : decide ((((wordsN 5 s).length : Nat) : Int) < 6) = true := by simp; omega
    (repeat' (first | with_reducible (first | refine awp_seq ?_ | refine awp_block ?_ | refine awp_skip ?_ | refine awp_exit ?_ | refine awp_ret ?_ | refine athen_normal ?_ | refine athen_ret ?_ | refine athen_exit ?_ | refine ablock_normal ?_ | refine ablock_ret ?_ | refine ablock_here ?_ | refine ablock_far rfl ?_ | (refine hK _ ?_; clear K hK) | refine awp_cond_t rfl ?_ | refine awp_cond_f rfl ?_ | intro hfact) | (with_reducible refine And.intro ?_ ?_; focus (first | assumption | omega | (simp; done) | ((repeat' apply And.intro) <;> first | assumption | omega) | ((repeat' split) <;> omega))) | ((first | with_reducible (first | ((refine awp_seqr TT ?_); intro K hK) | ((refine awp_region TT ?_); intro K hK) | ((refine awp_seqrF TT [] MX (by kernel_rfl) (by kernel_rfl) ?_); intro K hK) | ((refine awp_regionF TT [] MX (by kernel_rfl) (by kernel_rfl) ?_); intro K hK)) | (with_reducible (first | refine guard_split_t TT E (fun hb => ?_) (fun hb => ?_) | refine guard_split_f TT E (fun hb => ?_) (fun hb => ?_) | refine guardD_split_t TT _ _ (fun hb => ?_) (fun hb => ?_) | refine guardD_split_f TT _ _ (fun hb => ?_) (fun hb => ?_)) <;> try simp only [hb]) | ((first | refine callK_pure TT E (polText_ok _ _ _ _ _ _ _ _ _) rfl rfl ?_ | refine callKD_pure TT _ _ (polText_ok _ _ _ _ _ _ _ _ _) rfl rfl ?_); intro m hm; try dsimp only at hm) | ((first | refine callK_pure TT E (splitN_ok _ (by first | assumption | omega | (refine (?_ : (0 : Int) ≤ _ → _) ?_ <;> first | assumption | omega) | (simp; done) | (simp; omega))) rfl rfl ?_ | refine callKD_pure TT _ _ (splitN_ok _ (by first | assumption | omega | (refine (?_ : (0 : Int) ≤ _ → _) ?_ <;> first | assumption | omega) | (simp; done) | (simp; omega))) rfl rfl ?_); intro m hm; try dsimp only at hm) | ((first | refine callK_pure TT E (readExpr_ok _ (by first | assumption | omega | (refine (?_ : (0 : Int) ≤ _ → _) ?_ <;> first | assumption | omega) | (simp; done) | (simp; omega))) rfl rfl ?_ | refine callKD_pure TT _ _ (readExpr_ok _ (by first | assumption | omega | (refine (?_ : (0 : Int) ≤ _ → _) ?_ <;> first | assumption | omega) | (simp; done) | (simp; omega))) rfl rfl ?_); intro m hm; try dsimp only at hm)) <;> simp only [go_sem, ↓reduceIte, Int.reduceBEq, Int.reduceBNe, Nat.reduceEqDiff, Nat.reduceAdd, Nat.reduceMul, Nat.reduceSub, Nat.reduceLT, Nat.reduceBEq, Nat.reduceLeDiff, reduceCtorEq, Int.reduceToNat, Int.reduceNeg, Int.reduceEq, Int.reduceLE, Int.reduceLT, hc])))
    refine ret_givesE TT (by simp only [go_sem, ↓reduceIte, Nat.reduceEqDiff, Nat.reduceAdd, Nat.reduceLT, Nat.reduceLeDiff, reduceCtorEq, Tryz.results11]; rfl) rfl ?_; rw [hr]; simp [resV, zeroP, AV.erR, AV.er, erL, DV.er, erLL, Expr.kind, Expr.number, Expr.name, Expr.parts]
end Go.Proofs.YtaolcbhncnpldaaGreatDoor
