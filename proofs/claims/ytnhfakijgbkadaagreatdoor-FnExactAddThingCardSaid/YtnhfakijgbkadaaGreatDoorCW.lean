/- Walks of functions of the cut by the abstract logic, and what they compute. Filled by a program of mine from a template. -/
import Derived.Test.YtnhfakijgbkadaaGreatDoorU1
import Derived.Test.YtnhfakijgbkadaaGreatDoorCoreE
import Derived.Test.YtnhfakijgbkadaaGreatDoorCoreE
namespace Go.Proofs.YtnhfakijgbkadaaGreatDoor
open Go Go.AL
set_option linter.unusedSimpArgs false
set_option linter.unusedVariables false
/-! ### cloneWorld: what it returns owns its memory -/
theorem clnI (l : List Int) (Hl : l.length ≤ 1000000) : AC Tryz.prog 65 [LI l] [] fun n v o t m => v = LI l (.tok n) ∧ o = [] ∧ t = [n] ∧ m = n + 1 := by
  refine ac_of_body TT Tryz.call65 Tryz.func65 rfl (by simp [Tryz.ntmps65]) (by kernel_rfl) fun E hk => ?_
  (repeat' (first | with_reducible (first | refine awp_seq ?_ | refine awp_block ?_ | refine awp_skip ?_ | refine awp_exit ?_ | refine awp_ret ?_ | refine athen_normal ?_ | refine athen_ret ?_ | refine athen_exit ?_ | refine ablock_normal ?_ | refine ablock_ret ?_ | refine ablock_here ?_ | refine ablock_far rfl ?_ | (refine hK _ ?_; clear K hK) | refine awp_cond_t rfl ?_ | refine awp_cond_f rfl ?_ | intro hfact) | (with_reducible refine And.intro ?_ ?_; focus (first | assumption | omega | (simp; done) | ((repeat' apply And.intro) <;> first | assumption | omega) | ((repeat' split) <;> omega))) | ((first | with_reducible (first | ((refine awp_seqr TT ?_); intro K hK) | ((refine awp_region TT ?_); intro K hK) | ((refine awp_seqrF TT [] MX (by kernel_rfl) (by kernel_rfl) ?_); intro K hK) | ((refine awp_regionF TT [] MX (by kernel_rfl) (by kernel_rfl) ?_); intro K hK)) | (with_reducible (first | refine guard_split_t TT E (fun hb => ?_) (fun hb => ?_) | refine guard_split_f TT E (fun hb => ?_) (fun hb => ?_) | refine guardD_split_t TT _ _ (fun hb => ?_) (fun hb => ?_) | refine guardD_split_f TT _ _ (fun hb => ?_) (fun hb => ?_)) <;> try simp only [hb])) <;> simp only [go_sem, ↓reduceIte, Int.reduceBEq, Int.reduceBNe, Nat.reduceEqDiff, Nat.reduceAdd, Nat.reduceMul, Nat.reduceSub, Nat.reduceLT, Nat.reduceBEq, Nat.reduceLeDiff, reduceCtorEq, Int.reduceToNat, Int.reduceNeg, Int.reduceEq, Int.reduceLE, Int.reduceLT])))
  refine ret_R TT (m := 0) (toks := [E.nt0]) (by simp only [go_sem, ↓reduceIte, Nat.reduceEqDiff, Nat.reduceAdd, Nat.reduceLT, Nat.reduceLeDiff, reduceCtorEq, Tryz.results65]; rfl) (by simp) (by simp) rfl ⟨rfl, rfl, rfl, rfl⟩
theorem clnF (l : List Field) (Hl : l.length ≤ 1000000) : AC Tryz.prog 66 [LF l] [] fun n v o t m => v = LF l (.tok n) ∧ o = [] ∧ t = [n] ∧ m = n + 1 := by
  refine ac_of_body TT Tryz.call66 Tryz.func66 rfl (by simp [Tryz.ntmps66]) (by kernel_rfl) fun E hk => ?_
  (repeat' (first | with_reducible (first | refine awp_seq ?_ | refine awp_block ?_ | refine awp_skip ?_ | refine awp_exit ?_ | refine awp_ret ?_ | refine athen_normal ?_ | refine athen_ret ?_ | refine athen_exit ?_ | refine ablock_normal ?_ | refine ablock_ret ?_ | refine ablock_here ?_ | refine ablock_far rfl ?_ | (refine hK _ ?_; clear K hK) | refine awp_cond_t rfl ?_ | refine awp_cond_f rfl ?_ | intro hfact) | (with_reducible refine And.intro ?_ ?_; focus (first | assumption | omega | (simp; done) | ((repeat' apply And.intro) <;> first | assumption | omega) | ((repeat' split) <;> omega))) | ((first | with_reducible (first | ((refine awp_seqr TT ?_); intro K hK) | ((refine awp_region TT ?_); intro K hK) | ((refine awp_seqrF TT [] MX (by kernel_rfl) (by kernel_rfl) ?_); intro K hK) | ((refine awp_regionF TT [] MX (by kernel_rfl) (by kernel_rfl) ?_); intro K hK)) | (with_reducible (first | refine guard_split_t TT E (fun hb => ?_) (fun hb => ?_) | refine guard_split_f TT E (fun hb => ?_) (fun hb => ?_) | refine guardD_split_t TT _ _ (fun hb => ?_) (fun hb => ?_) | refine guardD_split_f TT _ _ (fun hb => ?_) (fun hb => ?_)) <;> try simp only [hb])) <;> simp only [go_sem, ↓reduceIte, Int.reduceBEq, Int.reduceBNe, Nat.reduceEqDiff, Nat.reduceAdd, Nat.reduceMul, Nat.reduceSub, Nat.reduceLT, Nat.reduceBEq, Nat.reduceLeDiff, reduceCtorEq, Int.reduceToNat, Int.reduceNeg, Int.reduceEq, Int.reduceLE, Int.reduceLT])))
  refine ret_R TT (m := 0) (toks := [E.nt0]) (by simp only [go_sem, ↓reduceIte, Nat.reduceEqDiff, Nat.reduceAdd, Nat.reduceLT, Nat.reduceLeDiff, reduceCtorEq, Tryz.results66]; rfl) (by simp) (by simp) rfl ⟨rfl, rfl, rfl, rfl⟩
/-- A world whose lists have these tokens. -/
def WX : List Thing → List (Nat × Nat) → List (List DV)
  | x :: w, p :: ps => [.sl 1 (x.groups.map encI) (.tok p.1), .sl 3 (x.fields.map encF) (.tok p.2)] :: WX w ps
  | _, _ => []
def tksW : List (Nat × Nat) → List Nat
  | [] => []
  | p :: ps => p.1 :: p.2 :: tksW ps
def holeT : List (Nat × Nat) → Nat → List Nat
  | [], _ => []
  | p :: ps, 0 => p.2 :: tksW ps
  | p :: ps, i + 1 => p.1 :: p.2 :: holeT ps i
theorem tksW_snoc (a b : Nat) : ∀ ps, tksW (ps ++ [(a, b)]) = tksW ps ++ [a, b]
  | [] => rfl
  | p :: ps => by simp [tksW, tksW_snoc a b ps]
theorem WX_snoc (x : Thing) (a b : Nat) : ∀ (w : List Thing) (ps : List (Nat × Nat)), w.length = ps.length → WX (w ++ [x]) (ps ++ [(a, b)]) = WX w ps ++ [[.sl 1 (x.groups.map encI) (.tok a), .sl 3 (x.fields.map encF) (.tok b)]]
  | [], [], _ => rfl
  | y :: w, p :: ps, h => by simp [WX, WX_snoc x a b w ps (by simpa using h)]
  | [], _ :: _, h => by simp at h
  | _ :: _, [], h => by simp at h
theorem WX_len : ∀ (w : List Thing) (ps : List (Nat × Nat)), w.length = ps.length → (WX w ps).length = w.length
  | [], [], _ => rfl
  | y :: w, p :: ps, h => by simp [WX, WX_len w ps (by simpa using h)]
  | [], _ :: _, h => by simp at h
  | _ :: _, [], h => by simp at h
theorem WX_er : ∀ (w : List Thing) (ps : List (Nat × Nat)), w.length = ps.length → erLL (WX w ps) = w.map encT
  | [], [], _ => rfl
  | y :: w, p :: ps, h => by simp [WX, erLL, erL, DV.er, er_encI, er_encF, encT, WX_er w ps (by simpa using h)]
  | [], _ :: _, h => by simp at h
  | _ :: _, [], h => by simp at h
theorem WX_own : ∀ (w : List Thing) (ps : List (Nat × Nat)), w.length = ps.length → (tksW ps).Nodup → ownLL (WX w ps) (tksW ps)
  | [], [], _, _ => rfl
  | y :: w, p :: ps, h, hn => by
    simp only [tksW, List.nodup_cons, List.mem_cons, not_or] at hn
    simp only [WX, tksW, ownLL]
    exact ⟨[p.1] ++ [p.2], tksW ps, rfl, fun z hz hz2 => by simp at hz; rcases hz with rfl | rfl; exact hn.1.2 hz2; exact hn.2.1 hz2, ownL_cons (ownD_tok (by simp) (ownLL_map (fun _ => rfl) _)) (ownL_one (ownD_tok (by simp) (ownLL_map (fun _ => rfl) _))) (fun z hz hz2 => by simp at hz hz2; exact hn.1.1 (hz ▸ hz2)), WX_own w ps (by simpa using h) hn.2.2⟩
  | [], _ :: _, h, _ => by simp at h
  | _ :: _, [], h, _ => by simp at h
/-- Tokens of a copy of a world. -/
def wOK (ps : List (Nat × Nat)) (own : Own) (n nt : Nat) : Prop := (tksW ps).Nodup ∧ (∀ z ∈ tksW ps, n ≤ z ∧ z < nt) ∧ ownS own n nt (ps = []) ∧ (∀ t ∈ tkOf own, t ∉ tksW ps) ∧ n ≤ nt
theorem wOK_0 {n nt : Nat} (h : n ≤ nt) : wOK [] .full n nt := ⟨by simp [tksW], by simp [tksW], .inl ⟨rfl, rfl⟩, by simp [tkOf], h⟩
theorem wOK_push {ps : List (Nat × Nat)} {own : Own} {n nt : Nat} (h : wOK ps own n nt) : wOK (ps ++ [(nt, nt + 1)]) (.tok (nt + 2)) n (nt + 2 + 1) := by
  obtain ⟨h1, h2, h3, h4, h5⟩ := h
  refine ⟨?_, fun z hz => ?_, ownS_tok (by omega), fun t ht hm => ?_, by omega⟩
  · rw [tksW_snoc, List.nodup_append]
    refine ⟨h1, by simp, fun a ha b hb e => ?_⟩
    have := (h2 a ha).2
    simp at hb
    omega
  · rw [tksW_snoc] at hz
    rcases List.mem_append.1 hz with hz | hz
    · have := h2 z hz; omega
    · simp at hz; omega
  · simp [tkOf] at ht
    subst ht
    rw [tksW_snoc] at hm
    rcases List.mem_append.1 hm with hz | hz
    · have := (h2 _ hz).2; omega
    · simp at hz
theorem tk_pushW {ps : List (Nat × Nat)} {own : Own} {n nt : Nat} (h : wOK ps own n nt) : ∀ t ∈ tkOf (.tok (nt + 2)) ++ tksW (ps ++ [(nt, nt + 1)]), t ∈ (nt + 2) :: dropTok own ((nt + 1) :: nt :: (tkOf own ++ tksW ps)) := by
  intro t ht
  obtain ⟨g1, g2, g3, g4, g5⟩ := h
  rw [tksW_snoc] at ht
  simp only [tkOf, List.cons_append, List.nil_append, List.mem_cons, List.mem_append, List.not_mem_nil, or_false] at ht
  have hno : ∀ u, nt ≤ u → u ∉ tkOf own := fun u hu hin => by
    rcases g3 with ⟨rfl, _⟩ | ⟨x, rfl, _, h7⟩
    · simp [tkOf] at hin
    · simp [tkOf] at hin
      subst hin
      omega
  rcases ht with rfl | ht | rfl | rfl
  · simp
  · exact List.mem_cons_of_mem _ (mem_dropTok (by simp [ht]) fun hin => g4 t hin ht)
  · exact List.mem_cons_of_mem _ (mem_dropTok (by simp) (hno _ (Nat.le_refl _)))
  · exact List.mem_cons_of_mem _ (mem_dropTok (by simp) (hno _ (by omega)))
theorem cwO (w : List Thing) (Hw : smallW w) : AC Tryz.prog 34 [LT w] [] fun n0 v o t m => ∃ ps own, v = ST (WX w ps) own ∧ o = [] ∧ t = tkOf own ++ tksW ps ∧ w.length = ps.length ∧ wOK ps own n0 m := by
  refine ac_of_body TT Tryz.call34 Tryz.func34 rfl (by simp [Tryz.ntmps34]) (by kernel_rfl) fun E hk => ?_
  (repeat' (first | with_reducible (first | refine awp_seq ?_ | refine awp_block ?_ | refine awp_skip ?_ | refine awp_exit ?_ | refine awp_ret ?_ | refine athen_normal ?_ | refine athen_ret ?_ | refine athen_exit ?_ | refine ablock_normal ?_ | refine ablock_ret ?_ | refine ablock_here ?_ | refine ablock_far rfl ?_ | (refine hK _ ?_; clear K hK) | refine awp_cond_t rfl ?_ | refine awp_cond_f rfl ?_ | intro hfact) | (with_reducible refine And.intro ?_ ?_; focus (first | assumption | omega | (simp; done) | ((repeat' apply And.intro) <;> first | assumption | omega) | ((repeat' split) <;> omega))) | ((first | with_reducible (first | ((refine awp_seqr TT ?_); intro K hK) | ((refine awp_region TT ?_); intro K hK) | ((refine awp_seqrF TT [] MX (by kernel_rfl) (by kernel_rfl) ?_); intro K hK) | ((refine awp_regionF TT [] MX (by kernel_rfl) (by kernel_rfl) ?_); intro K hK)) | (with_reducible (first | refine guard_split_t TT E (fun hb => ?_) (fun hb => ?_) | refine guard_split_f TT E (fun hb => ?_) (fun hb => ?_) | refine guardD_split_t TT _ _ (fun hb => ?_) (fun hb => ?_) | refine guardD_split_f TT _ _ (fun hb => ?_) (fun hb => ?_)) <;> try simp only [hb])) <;> simp only [go_sem, ↓reduceIte, Int.reduceBEq, Int.reduceBNe, Nat.reduceEqDiff, Nat.reduceAdd, Nat.reduceMul, Nat.reduceSub, Nat.reduceLT, Nat.reduceBEq, Nat.reduceLeDiff, reduceCtorEq, Int.reduceToNat, Int.reduceNeg, Int.reduceEq, Int.reduceLE, Int.reduceLT])))
  refine awp_zip (w) (List.length (w)) 6 [] [6, 7] (fun k s => [(3, ST (WX (w.take k) s.1) s.2), (8, I k)]) (fun obs k s => obs) (fun k s => tkOf s.2 ++ tksW s.1) (fun k rest s nt => (w.take k).length = s.1.length ∧ wOK s.1 s.2 E.nt0 nt) ((([] : List (Nat × Nat)), Own.full)) (by first | rfl | (simp; done) | (simp; omega)) (by first | rfl | (simp only [go_sem, ↓reduceIte, Nat.reduceEqDiff, Nat.reduceAdd, Nat.reduceLT, Nat.reduceLeDiff, reduceCtorEq]; done) | (simp only [go_sem, ↓reduceIte, Nat.reduceEqDiff, Nat.reduceAdd, Nat.reduceLT, Nat.reduceLeDiff, reduceCtorEq]; simp; done)) (by simp only [go_sem, ↓reduceIte, Nat.reduceEqDiff, Nat.reduceAdd, Nat.reduceLT, Nat.reduceLeDiff, reduceCtorEq]; rfl) (by first | rfl | (simp only [go_sem, ↓reduceIte, Nat.reduceEqDiff, Nat.reduceAdd, Nat.reduceLT, Nat.reduceLeDiff, reduceCtorEq]; rfl)) (⟨by simp, wOK_0 (by first | omega | (dsimp only; omega))⟩) (by unfold ASubW; simp only [go_sem, ↓reduceIte, Nat.reduceEqDiff, Nat.reduceAdd, Nat.reduceLT, Nat.reduceLeDiff, reduceCtorEq, hk]; try simp [tkOf, tksW, WX, ST, emptyA_nil, List.take_zero, List.append_nil]) ?_ ?_
  · rintro ⟨ps, own⟩ nt hmax ⟨he, hg⟩
    dsimp only at he hg
    rw [List.take_length] at he ⊢
    (repeat' (first | with_reducible (first | refine awp_seq ?_ | refine awp_block ?_ | refine awp_skip ?_ | refine awp_exit ?_ | refine awp_ret ?_ | refine athen_normal ?_ | refine athen_ret ?_ | refine athen_exit ?_ | refine ablock_normal ?_ | refine ablock_ret ?_ | refine ablock_here ?_ | refine ablock_far rfl ?_ | (refine hK _ ?_; clear K hK) | refine awp_cond_t rfl ?_ | refine awp_cond_f rfl ?_ | intro hfact) | (with_reducible refine And.intro ?_ ?_; focus (first | assumption | omega | (simp; done) | ((repeat' apply And.intro) <;> first | assumption | omega) | ((repeat' split) <;> omega))) | ((first | with_reducible (first | ((refine awp_seqr TT ?_); intro K hK) | ((refine awp_region TT ?_); intro K hK) | ((refine awp_seqrF TT [] MX (by kernel_rfl) (by kernel_rfl) ?_); intro K hK) | ((refine awp_regionF TT [] MX (by kernel_rfl) (by kernel_rfl) ?_); intro K hK)) | (with_reducible (first | refine guard_split_t TT E (fun hb => ?_) (fun hb => ?_) | refine guard_split_f TT E (fun hb => ?_) (fun hb => ?_) | refine guardD_split_t TT _ _ (fun hb => ?_) (fun hb => ?_) | refine guardD_split_f TT _ _ (fun hb => ?_) (fun hb => ?_)) <;> try simp only [hb])) <;> simp only [go_sem, ↓reduceIte, Int.reduceBEq, Int.reduceBNe, Nat.reduceEqDiff, Nat.reduceAdd, Nat.reduceMul, Nat.reduceSub, Nat.reduceLT, Nat.reduceBEq, Nat.reduceLeDiff, reduceCtorEq, Int.reduceToNat, Int.reduceNeg, Int.reduceEq, Int.reduceLE, Int.reduceLT])))
    refine ret_R TT (m := 0) (toks := tkOf own ++ tksW ps) (by simp only [go_sem, ↓reduceIte, Nat.reduceEqDiff, Nat.reduceAdd, Nat.reduceLT, Nat.reduceLeDiff, reduceCtorEq, Tryz.results34]; rfl) (by simp) (fun t h => h) rfl ⟨ps, own, rfl, rfl, rfl, he, hg⟩
  · rintro k x rest ⟨ps, own⟩ nt hA ⟨he, hg⟩
    dsimp only at he hg
    have hkl := hA.lt
    have hx := Hw.2 x hA.mem
    have hw0 := Hw.1
    have hXl : (WX (w.take k) ps).length ≤ 1000 := by rw [WX_len _ _ he]; simp; omega
    have ho1 : ownOK own ((nt + 1) :: nt :: (tkOf own ++ tksW ps)) := ownOK_mem (ownS_lt hg.2.2.1) (by intro t ht; simp [ht])
    have hpush := wOK_push hg
    have htk := tk_pushW hg
    have hsn := WX_snoc x nt (nt + 1) (w.take k) ps he
    rw [← hA.snoc] at hsn
    (repeat' (first | with_reducible (first | refine awp_seq ?_ | refine awp_block ?_ | refine awp_skip ?_ | refine awp_exit ?_ | refine awp_ret ?_ | refine athen_normal ?_ | refine athen_ret ?_ | refine athen_exit ?_ | refine ablock_normal ?_ | refine ablock_ret ?_ | refine ablock_here ?_ | refine ablock_far rfl ?_ | (refine hK _ ?_; clear K hK) | refine awp_cond_t rfl ?_ | refine awp_cond_f rfl ?_ | intro hfact) | (with_reducible refine And.intro ?_ ?_; focus (first | assumption | omega | (simp; done) | ((repeat' apply And.intro) <;> first | assumption | omega) | ((repeat' split) <;> omega))) | ((first | with_reducible (first | ((refine awp_seqr TT ?_); intro K hK) | ((refine awp_region TT ?_); intro K hK) | ((refine awp_seqrF TT [] MX (by kernel_rfl) (by kernel_rfl) ?_); intro K hK) | ((refine awp_regionF TT [] MX (by kernel_rfl) (by kernel_rfl) ?_); intro K hK)) | (with_reducible (first | refine guard_split_t TT E (fun hb => ?_) (fun hb => ?_) | refine guard_split_f TT E (fun hb => ?_) (fun hb => ?_) | refine guardD_split_t TT _ _ (fun hb => ?_) (fun hb => ?_) | refine guardD_split_f TT _ _ (fun hb => ?_) (fun hb => ?_)) <;> try simp only [hb]) | (refine callKD_ac TT _ _ [] (clnI x.groups (by omega)) (fun _ => rfl) rfl rfl List.nodup_nil (by simp) (fun n => ⟨_, _, _, _, rfl, rfl, rfl, rfl⟩) ?_; rintro r os ts m ⟨rfl, rfl, rfl, rfl⟩; refine ⟨rfl, rfl, ?_⟩) | (refine callKD_ac TT _ _ [] (clnF x.fields (by omega)) (fun _ => rfl) rfl rfl List.nodup_nil (by simp) (fun n => ⟨_, _, _, _, rfl, rfl, rfl, rfl⟩) ?_; rintro r os ts m ⟨rfl, rfl, rfl, rfl⟩; refine ⟨rfl, rfl, ?_⟩)) <;> simp only [go_sem, ↓reduceIte, Int.reduceBEq, Int.reduceBNe, Nat.reduceEqDiff, Nat.reduceAdd, Nat.reduceMul, Nat.reduceSub, Nat.reduceLT, Nat.reduceBEq, Nat.reduceLeDiff, reduceCtorEq, Int.reduceToNat, Int.reduceNeg, Int.reduceEq, Int.reduceLE, Int.reduceLT, hA.d, hA.w, hA.lt, hA.g, encT])))
    refine ⟨(ps ++ [(nt, nt + 1)], .tok (nt + 2)), ⟨?_, hpush⟩, ?_⟩
    · rw [hA.snoc]; simp only [List.length_append, List.length_singleton]; omega
    · refine ⟨?_, ?_, ?_, htk, ?_⟩ <;> (simp only [go_sem, ↓reduceIte, Nat.reduceEqDiff, Nat.reduceAdd, Nat.reduceLT, Nat.reduceLeDiff, reduceCtorEq, hk, ST, hsn]; try simp)
end Go.Proofs.YtnhfakijgbkadaaGreatDoor
