/- Walks of functions of the cut by the abstract logic, and what they compute. Filled by a program of mine from a template. -/
import Derived.Test.YtfgalmgldidcmaaGreatT1
import Derived.Test.YtfgalmgldidcmaaGreatE1
import Derived.Laws.StructEq
import Derived.KernelRfl
namespace Go.Proofs.YtfgalmgldidcmaaGreat
open Go Go.AL
set_option linter.unusedSimpArgs false
set_option linter.unusedVariables false

def encI (n : Int) : List DV := [.int .i64 n]
theorem er_encI (l : List Int) : erLL (l.map encI) = l.map encI := er_map (fun _ => rfl) l
attribute [go_sem] er_encI
abbrev LI (l : List Int) (o : Own := .no) : AV := .d (.sl 1 (l.map encI) o)

/-- Numbers that ascend in lo..hi. -/
def ascB : List Int → Int → Int → Bool
  | [], _, _ => true
  | n :: r, lo, hi => inB n lo hi && ascB r (n + 1) hi

theorem ascends_ok (l : List Int) (lo hi : Int) (Hh : hi < 9223372036854775807) (Hl : -9223372036854775808 ≤ lo) : Gives Tryz.prog 57 [LI l, I lo, I hi] (B (ascB l lo hi)) := by
  refine ac_of_body TT Tryz.call57 Tryz.func57 rfl (by simp [Tryz.ntmps57]) (by kernel_rfl) fun E hk => ?_
  (repeat' (first | with_reducible (first | refine awp_seq ?_ | refine awp_block ?_ | refine awp_skip ?_ | refine awp_exit ?_ | refine awp_ret ?_ | refine athen_normal ?_ | refine athen_ret ?_ | refine athen_exit ?_ | refine ablock_normal ?_ | refine ablock_ret ?_ | refine ablock_here ?_ | refine ablock_far rfl ?_ | (refine hK _ ?_; clear K hK) | refine awp_cond_t rfl ?_ | refine awp_cond_f rfl ?_ | intro hfact) | (with_reducible refine And.intro ?_ ?_; focus (first | assumption | omega | (simp; done) | ((repeat' apply And.intro) <;> first | assumption | omega) | ((repeat' split) <;> omega))) | ((first | with_reducible (first | ((refine awp_seqr TT ?_); intro K hK) | ((refine awp_region TT ?_); intro K hK) | ((refine awp_seqrF TT [] MX (by kernel_rfl) (by kernel_rfl) ?_); intro K hK) | ((refine awp_regionF TT [] MX (by kernel_rfl) (by kernel_rfl) ?_); intro K hK)) | (with_reducible (first | refine guard_split_t TT E (fun hb => ?_) (fun hb => ?_) | refine guard_split_f TT E (fun hb => ?_) (fun hb => ?_) | refine guardD_split_t TT _ _ (fun hb => ?_) (fun hb => ?_) | refine guardD_split_f TT _ _ (fun hb => ?_) (fun hb => ?_)) <;> try simp only [hb]) | ((first | refine callK_pure TT E (in_ok _ _ _) rfl rfl ?_ | refine callKD_pure TT _ _ (in_ok _ _ _) rfl rfl ?_); intro m hm; try dsimp only at hm)) <;> simp only [go_sem, ↓reduceIte, Int.reduceBEq, Int.reduceBNe, Nat.reduceEqDiff, Nat.reduceAdd, Nat.reduceMul, Nat.reduceSub, Nat.reduceLT, Nat.reduceBEq, Nat.reduceLeDiff, reduceCtorEq, Int.reduceToNat, Int.reduceNeg, Int.reduceEq, Int.reduceLE, Int.reduceLT])))
  refine awp_zip (l) (List.length (l)) 0 [] [2, 9, 10] (fun k low => [(11, I k), (1, I low)]) (fun obs k low => obs) (fun k low => []) (fun k rest low nt => -9223372036854775808 ≤ low ∧ ascB rest low hi = ascB l lo hi) (lo) (by first | rfl | (simp; done) | (simp; omega)) (by first | rfl | (simp only [go_sem, ↓reduceIte, Nat.reduceEqDiff, Nat.reduceAdd, Nat.reduceLT, Nat.reduceLeDiff, reduceCtorEq]; done) | (simp only [go_sem, ↓reduceIte, Nat.reduceEqDiff, Nat.reduceAdd, Nat.reduceLT, Nat.reduceLeDiff, reduceCtorEq]; simp; done)) (by simp only [go_sem, ↓reduceIte, Nat.reduceEqDiff, Nat.reduceAdd, Nat.reduceLT, Nat.reduceLeDiff, reduceCtorEq]; rfl) (by first | rfl | (simp only [go_sem, ↓reduceIte, Nat.reduceEqDiff, Nat.reduceAdd, Nat.reduceLT, Nat.reduceLeDiff, reduceCtorEq]; rfl)) (⟨Hl, rfl⟩) (by unfold ASubW; simp only [go_sem, ↓reduceIte, Nat.reduceEqDiff, Nat.reduceAdd, Nat.reduceLT, Nat.reduceLeDiff, reduceCtorEq, hk]; try simp) ?_ ?_
  · rintro low nt hmax ⟨hlow, hinv⟩
    (repeat' (first | with_reducible (first | refine awp_seq ?_ | refine awp_block ?_ | refine awp_skip ?_ | refine awp_exit ?_ | refine awp_ret ?_ | refine athen_normal ?_ | refine athen_ret ?_ | refine athen_exit ?_ | refine ablock_normal ?_ | refine ablock_ret ?_ | refine ablock_here ?_ | refine ablock_far rfl ?_ | (refine hK _ ?_; clear K hK) | refine awp_cond_t rfl ?_ | refine awp_cond_f rfl ?_ | intro hfact) | (with_reducible refine And.intro ?_ ?_; focus (first | assumption | omega | (simp; done) | ((repeat' apply And.intro) <;> first | assumption | omega) | ((repeat' split) <;> omega))) | ((first | with_reducible (first | ((refine awp_seqr TT ?_); intro K hK) | ((refine awp_region TT ?_); intro K hK) | ((refine awp_seqrF TT [] MX (by kernel_rfl) (by kernel_rfl) ?_); intro K hK) | ((refine awp_regionF TT [] MX (by kernel_rfl) (by kernel_rfl) ?_); intro K hK)) | (with_reducible (first | refine guard_split_t TT E (fun hb => ?_) (fun hb => ?_) | refine guard_split_f TT E (fun hb => ?_) (fun hb => ?_) | refine guardD_split_t TT _ _ (fun hb => ?_) (fun hb => ?_) | refine guardD_split_f TT _ _ (fun hb => ?_) (fun hb => ?_)) <;> try simp only [hb]) | ((first | refine callK_pure TT E (in_ok _ _ _) rfl rfl ?_ | refine callKD_pure TT _ _ (in_ok _ _ _) rfl rfl ?_); intro m hm; try dsimp only at hm)) <;> simp only [go_sem, ↓reduceIte, Int.reduceBEq, Int.reduceBNe, Nat.reduceEqDiff, Nat.reduceAdd, Nat.reduceMul, Nat.reduceSub, Nat.reduceLT, Nat.reduceBEq, Nat.reduceLeDiff, reduceCtorEq, Int.reduceToNat, Int.reduceNeg, Int.reduceEq, Int.reduceLE, Int.reduceLT])))
    refine ret_gives TT (by simp only [go_sem, ↓reduceIte, Nat.reduceEqDiff, Nat.reduceAdd, Nat.reduceLT, Nat.reduceLeDiff, reduceCtorEq, Tryz.results57]; rfl) rfl ?_; simp [resV, ← hinv, ascB]
  · rintro k x rest low nt hA ⟨hlow, hinv⟩
    (repeat' (first | with_reducible (first | refine awp_seq ?_ | refine awp_block ?_ | refine awp_skip ?_ | refine awp_exit ?_ | refine awp_ret ?_ | refine athen_normal ?_ | refine athen_ret ?_ | refine athen_exit ?_ | refine ablock_normal ?_ | refine ablock_ret ?_ | refine ablock_here ?_ | refine ablock_far rfl ?_ | (refine hK _ ?_; clear K hK) | refine awp_cond_t rfl ?_ | refine awp_cond_f rfl ?_ | intro hfact) | (with_reducible refine And.intro ?_ ?_; focus (first | assumption | omega | (simp; done) | ((repeat' apply And.intro) <;> first | assumption | omega) | ((repeat' split) <;> omega))) | ((first | with_reducible (first | ((refine awp_seqr TT ?_); intro K hK) | ((refine awp_region TT ?_); intro K hK) | ((refine awp_seqrF TT [] MX (by kernel_rfl) (by kernel_rfl) ?_); intro K hK) | ((refine awp_regionF TT [] MX (by kernel_rfl) (by kernel_rfl) ?_); intro K hK)) | (with_reducible (first | refine guard_split_t TT E (fun hb => ?_) (fun hb => ?_) | refine guard_split_f TT E (fun hb => ?_) (fun hb => ?_) | refine guardD_split_t TT _ _ (fun hb => ?_) (fun hb => ?_) | refine guardD_split_f TT _ _ (fun hb => ?_) (fun hb => ?_)) <;> try simp only [hb]) | ((first | refine callK_pure TT E (in_ok _ _ _) rfl rfl ?_ | refine callKD_pure TT _ _ (in_ok _ _ _) rfl rfl ?_); intro m hm; try dsimp only at hm)) <;> simp only [go_sem, ↓reduceIte, Int.reduceBEq, Int.reduceBNe, Nat.reduceEqDiff, Nat.reduceAdd, Nat.reduceMul, Nat.reduceSub, Nat.reduceLT, Nat.reduceBEq, Nat.reduceLeDiff, reduceCtorEq, Int.reduceToNat, Int.reduceNeg, Int.reduceEq, Int.reduceLE, Int.reduceLT, hA.d, hA.w, hA.lt, hA.g, encI])))
    refine awp_cond rfl (fun hb => ?_) (fun hb => ?_)
    · (repeat' (first | with_reducible (first | refine awp_seq ?_ | refine awp_block ?_ | refine awp_skip ?_ | refine awp_exit ?_ | refine awp_ret ?_ | refine athen_normal ?_ | refine athen_ret ?_ | refine athen_exit ?_ | refine ablock_normal ?_ | refine ablock_ret ?_ | refine ablock_here ?_ | refine ablock_far rfl ?_ | (refine hK _ ?_; clear K hK) | refine awp_cond_t rfl ?_ | refine awp_cond_f rfl ?_ | intro hfact) | (with_reducible refine And.intro ?_ ?_; focus (first | assumption | omega | (simp; done) | ((repeat' apply And.intro) <;> first | assumption | omega) | ((repeat' split) <;> omega))) | ((first | with_reducible (first | ((refine awp_seqr TT ?_); intro K hK) | ((refine awp_region TT ?_); intro K hK) | ((refine awp_seqrF TT [] MX (by kernel_rfl) (by kernel_rfl) ?_); intro K hK) | ((refine awp_regionF TT [] MX (by kernel_rfl) (by kernel_rfl) ?_); intro K hK)) | (with_reducible (first | refine guard_split_t TT E (fun hb => ?_) (fun hb => ?_) | refine guard_split_f TT E (fun hb => ?_) (fun hb => ?_) | refine guardD_split_t TT _ _ (fun hb => ?_) (fun hb => ?_) | refine guardD_split_f TT _ _ (fun hb => ?_) (fun hb => ?_)) <;> try simp only [hb]) | ((first | refine callK_pure TT E (in_ok _ _ _) rfl rfl ?_ | refine callKD_pure TT _ _ (in_ok _ _ _) rfl rfl ?_); intro m hm; try dsimp only at hm)) <;> simp only [go_sem, ↓reduceIte, Int.reduceBEq, Int.reduceBNe, Nat.reduceEqDiff, Nat.reduceAdd, Nat.reduceMul, Nat.reduceSub, Nat.reduceLT, Nat.reduceBEq, Nat.reduceLeDiff, reduceCtorEq, Int.reduceToNat, Int.reduceNeg, Int.reduceEq, Int.reduceLE, Int.reduceLT])))
      refine ret_gives TT (by simp only [go_sem, ↓reduceIte, Nat.reduceEqDiff, Nat.reduceAdd, Nat.reduceLT, Nat.reduceLeDiff, reduceCtorEq, Tryz.results57]; rfl) rfl ?_; simp [resV, ← hinv, ascB]; simp at hb; simp [hb]
    · have hin : inB x low hi = true := by simpa using hb
      have h2 := inB_t.1 hin
      have hw2 : IntKind.i64.wrap (x + 1) = x + 1 := wrap_id (by omega)
      (repeat' (first | with_reducible (first | refine awp_seq ?_ | refine awp_block ?_ | refine awp_skip ?_ | refine awp_exit ?_ | refine awp_ret ?_ | refine athen_normal ?_ | refine athen_ret ?_ | refine athen_exit ?_ | refine ablock_normal ?_ | refine ablock_ret ?_ | refine ablock_here ?_ | refine ablock_far rfl ?_ | (refine hK _ ?_; clear K hK) | refine awp_cond_t rfl ?_ | refine awp_cond_f rfl ?_ | intro hfact) | (with_reducible refine And.intro ?_ ?_; focus (first | assumption | omega | (simp; done) | ((repeat' apply And.intro) <;> first | assumption | omega) | ((repeat' split) <;> omega))) | ((first | with_reducible (first | ((refine awp_seqr TT ?_); intro K hK) | ((refine awp_region TT ?_); intro K hK) | ((refine awp_seqrF TT [] MX (by kernel_rfl) (by kernel_rfl) ?_); intro K hK) | ((refine awp_regionF TT [] MX (by kernel_rfl) (by kernel_rfl) ?_); intro K hK)) | (with_reducible (first | refine guard_split_t TT E (fun hb => ?_) (fun hb => ?_) | refine guard_split_f TT E (fun hb => ?_) (fun hb => ?_) | refine guardD_split_t TT _ _ (fun hb => ?_) (fun hb => ?_) | refine guardD_split_f TT _ _ (fun hb => ?_) (fun hb => ?_)) <;> try simp only [hb]) | ((first | refine callK_pure TT E (in_ok _ _ _) rfl rfl ?_ | refine callKD_pure TT _ _ (in_ok _ _ _) rfl rfl ?_); intro m hm; try dsimp only at hm)) <;> simp only [go_sem, ↓reduceIte, Int.reduceBEq, Int.reduceBNe, Nat.reduceEqDiff, Nat.reduceAdd, Nat.reduceMul, Nat.reduceSub, Nat.reduceLT, Nat.reduceBEq, Nat.reduceLeDiff, reduceCtorEq, Int.reduceToNat, Int.reduceNeg, Int.reduceEq, Int.reduceLE, Int.reduceLT, hA.w, hw2])))
      refine ⟨x + 1, ⟨by omega, by rw [← hinv, ascB, hin, Bool.true_and]⟩, (by unfold ASubW; simp only [go_sem, ↓reduceIte, Nat.reduceEqDiff, Nat.reduceAdd, Nat.reduceLT, Nat.reduceLeDiff, reduceCtorEq, hk]; try simp)⟩

def seen (l : List (List UInt8)) : List (DV × DV) := l.map fun n => (.str n, .bool true)
theorem find_seen (n : List UInt8) (l : List (List UInt8)) : findE (.str n) (seen l) = some (if l.any (· == n) then some (.bool true) else none) := by
  induction l with
  | nil => simp [seen, findE]
  | cons r l ih =>
    simp only [seen, List.map_cons, findE, keyB] at ih ⊢
    by_cases h : r = n
    · simp [h]
    · have h' : (n == r) = false := by simpa using fun e => h e.symm
      simp only [h', ih, List.any_cons]
      simp [h]
theorem seen_push (l : List (List UInt8)) (n : List UInt8) : seen l ++ [(.str n, .bool true)] = seen (l ++ [n]) := by simp [seen]

def encS (s : List UInt8) : List DV := [.str s]
theorem er_encS (l : List (List UInt8)) : erLL (l.map encS) = l.map encS := er_map (fun _ => rfl) l
attribute [go_sem] er_encS
abbrev LS (l : List (List UInt8)) (o : Own := .no) : AV := .d (.sl 1 (l.map encS) o)

/-- A field: its name, and its value's kind and number. -/
structure Field where
  name : List UInt8
  kind : Int
  number : Int
deriving DecidableEq
def encF (f : Field) : List DV := [.str f.name, .int .i64 f.kind, .int .i64 f.number]
theorem er_encF (l : List Field) : erLL (l.map encF) = l.map encF := er_map (fun _ => rfl) l
attribute [go_sem] er_encF
abbrev LF (l : List Field) (o : Own := .no) : AV := .d (.sl 3 (l.map encF) o)


/-- A thing: its groups, and its fields. -/
structure Thing where
  groups : List Int
  fields : List Field
deriving DecidableEq
def encT (t : Thing) : List DV := [.sl 1 (t.groups.map encI) .no, .sl 3 (t.fields.map encF) .no]
theorem er_encT (l : List Thing) : erLL (l.map encT) = l.map encT := er_map (fun t => by simp [encT, erL, DV.er, er_encI, er_encF]) l
attribute [go_sem] er_encT
abbrev LT (l : List Thing) (o : Own := .no) : AV := .d (.sl 2 (l.map encT) o)
/-- A request. -/
structure Request where
  who : Int
  act : Int
  what : Int
  fields : List Field
deriving DecidableEq
def encR (r : Request) : List DV := [.int .i64 r.who, .int .i64 r.act, .int .i64 r.what, .sl 3 (r.fields.map encF) .no]
theorem er_encR (l : List Request) : erLL (l.map encR) = l.map encR := er_map (fun t => by simp [encR, erL, DV.er, er_encF]) l
attribute [go_sem] er_encR
abbrev LQ (l : List Request) (o : Own := .no) : AV := .d (.sl 4 (l.map encR) o)

theorem eqokV (k k' n n' : Int) : EqOK Tryz.prog 70 [.int .i64 k, .int .i64 n] [.int .i64 k', .int .i64 n'] := by
  intro I τ vs us b w x y h1 h2 hc
  obtain ⟨_, v1, rfl, ⟨⟩, a1⟩ := repL_one h1
  obtain ⟨_, v2, rfl, ⟨⟩, a2⟩ := repL_one a1
  obtain rfl := repL_done a2
  obtain ⟨_, v1, rfl, ⟨⟩, b1⟩ := repL_one h2
  obtain ⟨_, v2, rfl, ⟨⟩, b2⟩ := repL_one b1
  obtain rfl := repL_done b2
  clear h1 h2 a1 a2 b1 b2
  refine ⟨run_eqGuard_agg _ _ _ _ _ _ _ (by kernel_rfl), run_eqGuard_agg _ _ _ _ _ _ _ (by kernel_rfl), ?_⟩
  simp only [cmpL, cmpD, Option.some.injEq] at hc
  subst hc
  have u3 := Tryz.underlying3
  simp only [Op.equal, Op.maxDepth]
  rw [show (10000 : Nat) = 9999 + 1 from rfl, run_equalIn_agg w 9999 70 _ _ (by kernel_rfl) (by kernel_rfl)]
  simp only [Program.fieldsOf, Tryz.underlying70]
  have a3 := Tryz.isAgg3
  have z3 := Tryz.sizeOf3
  go_simp
  by_cases q2 : k = k' <;> by_cases q3 : n = n' <;> simp [q2, q3]
theorem eqokV' (k k' n n' : Int) : EqOK Tryz.prog 70 [.int .i64 k, .int .i64 n] [.int .i64 k', .int .i64 n'] = True := eq_true (eqokV k k' n n')
attribute [go_sem] eqokV'
end Go.Proofs.YtfgalmgldidcmaaGreat
