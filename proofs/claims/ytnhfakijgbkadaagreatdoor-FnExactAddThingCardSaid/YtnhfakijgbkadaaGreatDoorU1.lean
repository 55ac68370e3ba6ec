/- Walks of functions of the cut by the abstract logic, and what they compute. Filled by a program of mine from a template. -/
import Derived.Test.YtnhfakijgbkadaaGreatDoorW2
import Derived.Test.YtnhfakijgbkadaaGreatDoorCoreE
namespace Go.Proofs.YtnhfakijgbkadaaGreatDoor
open Go Go.AL
set_option linter.unusedSimpArgs false
set_option linter.unusedVariables false
/-! ### A copy of a world owns its memory; JoinGroup of the reference model -/
theorem ascB_len : ∀ {l : List Int} {lo hi : Int}, ascB l lo hi = true → l.length = 0 ∨ (l.length : Int) ≤ hi - lo + 1
  | [], lo, hi, _ => .inl rfl
  | n :: r, lo, hi, h => by
    rw [ascB, Bool.and_eq_true, inB_t] at h
    right
    rcases ascB_len h.2 with h1 | h1
    · simp [h1]; omega
    · simp; omega
theorem fields_lenU {l : List Field} {m : Int} (h : fieldsB l m = true) : l.length ≤ 4 := by
  simp only [fieldsB, Bool.and_eq_true, decide_eq_true_eq] at h
  omega
def smallW (w : List Thing) : Prop := w.length ≤ 1000 ∧ ∀ t ∈ w, t.groups.length ≤ 1000 ∧ t.fields.length ≤ 1000
theorem smallW_of {w : List Thing} (h : worldB w = true) : smallW w := by
  refine ⟨by have := world_len h; omega, fun t ht => ?_⟩
  obtain ⟨i, hi⟩ := List.getElem?_of_mem ht
  have hl := (List.getElem?_eq_some_iff.1 hi).1
  have h1 := world_get h hi
  have h2 := world_len h
  have h3 := fields_lenU h1.2
  refine ⟨?_, by omega⟩
  rcases ascB_len h1.1 with h4 | h4 <;> omega
abbrev ST (X : List (List DV)) (own : Own) : AV := .d (.sl 2 X own)
theorem tk_push2 {X : List (List DV)} {us : List Nat} {own : Own} {n nt : Nat} (h : ownG X us own n nt) : ∀ t ∈ tkOf (.tok (nt + 2)) ++ (us ++ [nt, nt + 1]), t ∈ (nt + 2) :: dropTok own ((nt + 1) :: nt :: (tkOf own ++ us)) := by
  intro t ht
  obtain ⟨g1, g2, g3, g4, g5⟩ := h
  simp only [tkOf, List.cons_append, List.nil_append, List.mem_cons, List.mem_append, List.not_mem_nil, or_false] at ht
  have hno : ∀ u, nt ≤ u → u ∉ tkOf own := fun u hu hin => by
    rcases g3 with ⟨rfl, _⟩ | ⟨x, rfl, _, h7⟩
    · simp [tkOf] at hin
    · simp [tkOf] at hin
      subst hin
      omega
  rcases ht with rfl | ht | rfl | rfl
  · simp
  · exact List.mem_cons_of_mem _ (mem_dropTok (by simp [ht]) fun hin => g4 t hin ht)
  · exact List.mem_cons_of_mem _ (mem_dropTok (by simp) (hno _ (Nat.le_refl _)))
  · exact List.mem_cons_of_mem _ (mem_dropTok (by simp) (hno _ (by omega)))
theorem l20wO (w : List Thing) (Hw : smallW w) : AC Tryz.prog 44 [LT w] [] fun n0 v o t m => ∃ X us own, v = ST X own ∧ o = [] ∧ t = tkOf own ++ us ∧ erLL X = w.map encT ∧ ownG X us own n0 m := by
  refine ac_of_body TT Tryz.call44 Tryz.func44 rfl (by simp [Tryz.ntmps44]) (by kernel_rfl) fun E hk => ?_
  (repeat' (first | with_reducible (first | refine awp_seq ?_ | refine awp_block ?_ | refine awp_skip ?_ | refine awp_exit ?_ | refine awp_ret ?_ | refine athen_normal ?_ | refine athen_ret ?_ | refine athen_exit ?_ | refine ablock_normal ?_ | refine ablock_ret ?_ | refine ablock_here ?_ | refine ablock_far rfl ?_ | (refine hK _ ?_; clear K hK) | refine awp_cond_t rfl ?_ | refine awp_cond_f rfl ?_ | intro hfact) | (with_reducible refine And.intro ?_ ?_; focus (first | assumption | omega | (simp; done) | ((repeat' apply And.intro) <;> first | assumption | omega) | ((repeat' split) <;> omega))) | ((first | with_reducible (first | ((refine awp_seqr TT ?_); intro K hK) | ((refine awp_region TT ?_); intro K hK) | ((refine awp_seqrF TT [] MX (by kernel_rfl) (by kernel_rfl) ?_); intro K hK) | ((refine awp_regionF TT [] MX (by kernel_rfl) (by kernel_rfl) ?_); intro K hK)) | (with_reducible (first | refine guard_split_t TT E (fun hb => ?_) (fun hb => ?_) | refine guard_split_f TT E (fun hb => ?_) (fun hb => ?_) | refine guardD_split_t TT _ _ (fun hb => ?_) (fun hb => ?_) | refine guardD_split_f TT _ _ (fun hb => ?_) (fun hb => ?_)) <;> try simp only [hb])) <;> simp only [go_sem, ↓reduceIte, Int.reduceBEq, Int.reduceBNe, Nat.reduceEqDiff, Nat.reduceAdd, Nat.reduceMul, Nat.reduceSub, Nat.reduceLT, Nat.reduceBEq, Nat.reduceLeDiff, reduceCtorEq, Int.reduceToNat, Int.reduceNeg, Int.reduceEq, Int.reduceLE, Int.reduceLT])))
  refine awp_zip (w) (List.length (w)) 0 [] [0] (fun k s => [(3, ST s.1 s.2.2), (4, I k)]) (fun obs k s => obs) (fun k s => tkOf s.2.2 ++ s.2.1) (fun k rest s nt => erLL s.1 = (w.take k).map encT ∧ ownG s.1 s.2.1 s.2.2 E.nt0 nt) ((([] : List (List DV)), ([] : List Nat), Own.full)) (by first | rfl | (simp; done) | (simp; omega)) (by first | rfl | (simp only [go_sem, ↓reduceIte, Nat.reduceEqDiff, Nat.reduceAdd, Nat.reduceLT, Nat.reduceLeDiff, reduceCtorEq]; done) | (simp only [go_sem, ↓reduceIte, Nat.reduceEqDiff, Nat.reduceAdd, Nat.reduceLT, Nat.reduceLeDiff, reduceCtorEq]; simp; done)) (by simp only [go_sem, ↓reduceIte, Nat.reduceEqDiff, Nat.reduceAdd, Nat.reduceLT, Nat.reduceLeDiff, reduceCtorEq]; rfl) (by first | rfl | (simp only [go_sem, ↓reduceIte, Nat.reduceEqDiff, Nat.reduceAdd, Nat.reduceLT, Nat.reduceLeDiff, reduceCtorEq]; rfl)) (⟨by simp [erLL], ownG_0 (by first | omega | (dsimp only; omega))⟩) (by unfold ASubW; simp only [go_sem, ↓reduceIte, Nat.reduceEqDiff, Nat.reduceAdd, Nat.reduceLT, Nat.reduceLeDiff, reduceCtorEq, hk]; try simp [tkOf, ST, emptyA_nil]) ?_ ?_
  · rintro ⟨X, us, own⟩ nt hmax ⟨he, hg⟩
    dsimp only at he hg
    rw [List.take_length] at he
    (repeat' (first | with_reducible (first | refine awp_seq ?_ | refine awp_block ?_ | refine awp_skip ?_ | refine awp_exit ?_ | refine awp_ret ?_ | refine athen_normal ?_ | refine athen_ret ?_ | refine athen_exit ?_ | refine ablock_normal ?_ | refine ablock_ret ?_ | refine ablock_here ?_ | refine ablock_far rfl ?_ | (refine hK _ ?_; clear K hK) | refine awp_cond_t rfl ?_ | refine awp_cond_f rfl ?_ | intro hfact) | (with_reducible refine And.intro ?_ ?_; focus (first | assumption | omega | (simp; done) | ((repeat' apply And.intro) <;> first | assumption | omega) | ((repeat' split) <;> omega))) | ((first | with_reducible (first | ((refine awp_seqr TT ?_); intro K hK) | ((refine awp_region TT ?_); intro K hK) | ((refine awp_seqrF TT [] MX (by kernel_rfl) (by kernel_rfl) ?_); intro K hK) | ((refine awp_regionF TT [] MX (by kernel_rfl) (by kernel_rfl) ?_); intro K hK)) | (with_reducible (first | refine guard_split_t TT E (fun hb => ?_) (fun hb => ?_) | refine guard_split_f TT E (fun hb => ?_) (fun hb => ?_) | refine guardD_split_t TT _ _ (fun hb => ?_) (fun hb => ?_) | refine guardD_split_f TT _ _ (fun hb => ?_) (fun hb => ?_)) <;> try simp only [hb])) <;> simp only [go_sem, ↓reduceIte, Int.reduceBEq, Int.reduceBNe, Nat.reduceEqDiff, Nat.reduceAdd, Nat.reduceMul, Nat.reduceSub, Nat.reduceLT, Nat.reduceBEq, Nat.reduceLeDiff, reduceCtorEq, Int.reduceToNat, Int.reduceNeg, Int.reduceEq, Int.reduceLE, Int.reduceLT])))
    refine ret_R TT (m := 0) (toks := tkOf own ++ us) (by simp only [go_sem, ↓reduceIte, Nat.reduceEqDiff, Nat.reduceAdd, Nat.reduceLT, Nat.reduceLeDiff, reduceCtorEq, Tryz.results44]; rfl) (by simp) (fun t h => h) rfl ⟨X, us, own, rfl, rfl, rfl, he, hg⟩
  · rintro k x rest ⟨X, us, own⟩ nt hA ⟨he, hg⟩
    dsimp only at he hg
    have hkl := hA.lt
    have hx := Hw.2 x hA.mem
    have hw0 := Hw.1
    have hXl : X.length ≤ 1000 := by
      have h9 := congrArg List.length he
      rw [erLL_eq, List.length_map, List.length_map, List.length_take] at h9
      omega
    have ho : ∀ l, (∀ t ∈ tkOf own ++ us, t ∈ l) → ownOK own l := fun l hl => ownOK_mem (ownS_lt hg.2.2.1) (by intro t ht; exact hl t (by simp [ht]))
    have ho1 : ownOK own ((nt + 1) :: nt :: (tkOf own ++ us)) := ho _ (by intro t ht; simp [ht])
    have hpush := ownG_push (m := nt + 2) hg (c := [.sl 1 (x.groups.map encI) (.tok nt), .sl 3 (x.fields.map encF) (.tok (nt + 1))]) (t1 := [nt] ++ [nt + 1]) (ownL_cons (ownD_tok (by simp) (ownLL_map (fun _ => rfl) _)) (ownL_one (ownD_tok (by simp) (ownLL_map (fun _ => rfl) _))) (by intro z hz hz2; simp at hz hz2; omega)) (by intro t ht; simp at ht; omega) (by omega)
    have htk := tk_push2 hg
    (repeat' (first | with_reducible (first | refine awp_seq ?_ | refine awp_block ?_ | refine awp_skip ?_ | refine awp_exit ?_ | refine awp_ret ?_ | refine athen_normal ?_ | refine athen_ret ?_ | refine athen_exit ?_ | refine ablock_normal ?_ | refine ablock_ret ?_ | refine ablock_here ?_ | refine ablock_far rfl ?_ | (refine hK _ ?_; clear K hK) | refine awp_cond_t rfl ?_ | refine awp_cond_f rfl ?_ | intro hfact) | (with_reducible refine And.intro ?_ ?_; focus (first | assumption | omega | (simp; done) | ((repeat' apply And.intro) <;> first | assumption | omega) | ((repeat' split) <;> omega))) | ((first | with_reducible (first | ((refine awp_seqr TT ?_); intro K hK) | ((refine awp_region TT ?_); intro K hK) | ((refine awp_seqrF TT [] MX (by kernel_rfl) (by kernel_rfl) ?_); intro K hK) | ((refine awp_regionF TT [] MX (by kernel_rfl) (by kernel_rfl) ?_); intro K hK)) | (with_reducible (first | refine guard_split_t TT E (fun hb => ?_) (fun hb => ?_) | refine guard_split_f TT E (fun hb => ?_) (fun hb => ?_) | refine guardD_split_t TT _ _ (fun hb => ?_) (fun hb => ?_) | refine guardD_split_f TT _ _ (fun hb => ?_) (fun hb => ?_)) <;> try simp only [hb])) <;> simp only [go_sem, ↓reduceIte, Int.reduceBEq, Int.reduceBNe, Nat.reduceEqDiff, Nat.reduceAdd, Nat.reduceMul, Nat.reduceSub, Nat.reduceLT, Nat.reduceBEq, Nat.reduceLeDiff, reduceCtorEq, Int.reduceToNat, Int.reduceNeg, Int.reduceEq, Int.reduceLE, Int.reduceLT, hA.d, hA.w, hA.lt, hA.g, encT])))
    refine ⟨(X ++ [[.sl 1 (x.groups.map encI) (.tok nt), .sl 3 (x.fields.map encF) (.tok (nt + 1))]], us ++ [nt, nt + 1], .tok (nt + 2)), ⟨?_, hpush⟩, ?_⟩
    · rw [erLL_append, he, hA.snoc, List.map_append]
      simp [erLL, erL, DV.er, encT, er_encI, er_encF]
    · refine ⟨?_, ?_, ?_, htk, ?_⟩ <;> (simp only [go_sem, ↓reduceIte, Nat.reduceEqDiff, Nat.reduceAdd, Nat.reduceLT, Nat.reduceLeDiff, reduceCtorEq, hk, ST]; try simp)
end Go.Proofs.YtnhfakijgbkadaaGreatDoor
