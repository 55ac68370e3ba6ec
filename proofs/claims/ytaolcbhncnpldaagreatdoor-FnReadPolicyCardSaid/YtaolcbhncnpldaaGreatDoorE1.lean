/- Walks of functions of the cut by the abstract logic, and what they compute. Filled by a program of mine from a template. -/
import Derived.Test.YtaolcbhncnpldaaGreatDoorT1
namespace Go.Proofs.YtaolcbhncnpldaaGreatDoor
open Go Go.AL
set_option linter.unusedSimpArgs false
set_option linter.unusedVariables false

theorem er_map {α : Type} {f : α → List DV} (h : ∀ x, erL (f x) = f x) (l : List α) : erLL (l.map f) = l.map f := by
  rw [erLL_eq, List.map_map]; exact List.map_congr_left fun x _ => h x

noncomputable def dec (p : Prop) : Bool := @decide p (Classical.propDecidable p)
theorem dec_t {p : Prop} (h : p) : dec p = true := @decide_eq_true p (Classical.propDecidable p) h
theorem dec_f {p : Prop} (h : ¬p) : dec p = false := @decide_eq_false p (Classical.propDecidable p) h
theorem dec_iff {p : Prop} : dec p = true ↔ p := @decide_eq_true_iff p (Classical.propDecidable p)
theorem dec_f_iff {p : Prop} : dec p = false ↔ ¬p := @decide_eq_false_iff_not p (Classical.propDecidable p)
/-- An expression. -/
inductive Expr where
  | mk (kind number : Int) (name : List UInt8) (parts : List Expr)
def Expr.kind : Expr → Int
  | .mk k _ _ _ => k
def Expr.number : Expr → Int
  | .mk _ n _ _ => n
def Expr.name : Expr → List UInt8
  | .mk _ _ s _ => s
def Expr.parts : Expr → List Expr
  | .mk _ _ _ ps => ps
theorem Expr.eta (e : Expr) : Expr.mk e.kind e.number e.name e.parts = e := by cases e; rfl
theorem Expr.ind {p : Expr → Prop} (h : ∀ k n nm ps, (∀ x ∈ ps, p x) → p (.mk k n nm ps)) : ∀ e, p e
  | .mk k n nm ps => h k n nm ps fun x hx => Expr.ind h x
termination_by e => SizeOf.sizeOf e
decreasing_by
  have := List.sizeOf_lt_of_mem hx
  simp; omega

mutual
def encE : Expr → List DV
  | .mk k n nm ps => [.int .i64 k, .int .i64 n, .str nm, .sl 4 (encEs ps) .no]
def encEs : List Expr → List (List DV)
  | [] => []
  | e :: es => encE e :: encEs es
end
mutual
/-- How many expressions are in one. -/
def cntE : Expr → Nat
  | .mk _ _ _ ps => 1 + cntEs ps
def cntEs : List Expr → Nat
  | [] => 0
  | e :: es => cntE e + cntEs es
end
mutual
/-- How large one is: names, and parts. -/
def wE : Expr → Nat
  | .mk _ _ nm ps => nm.length + wEs ps
def wEs : List Expr → Nat
  | [] => 0
  | e :: es => 1 + wE e + wEs es
end
theorem cntE_mk (k n : Int) (nm : List UInt8) (ps : List Expr) : cntE (.mk k n nm ps) = 1 + cntEs ps := by rw [cntE]
theorem cntEs_append (a b : List Expr) : cntEs (a ++ b) = cntEs a + cntEs b := by
  induction a with
  | nil => simp [cntEs]
  | cons x a ih => simp [cntEs, ih]; omega
theorem cntEs_mem {a : List Expr} {e : Expr} (h : e ∈ a) : cntE e ≤ cntEs a := by
  induction a with
  | nil => simp at h
  | cons x a ih =>
    simp only [cntEs]
    rcases List.mem_cons.1 h with rfl | h
    · omega
    · have := ih h; omega
theorem encEs_eq (l : List Expr) : encEs l = l.map encE := by induction l <;> simp_all [encEs]
theorem encE_mk (k n : Int) (nm : List UInt8) (ps : List Expr) : encE (.mk k n nm ps) = [.int .i64 k, .int .i64 n, .str nm, .sl 4 (ps.map encE) .no] := by rw [encE, encEs_eq]
theorem encE_eq (e : Expr) : encE e = [.int .i64 e.kind, .int .i64 e.number, .str e.name, .sl 4 (e.parts.map encE) .no] := by cases e; rw [encE_mk]; rfl
theorem er_encE1 (e : Expr) : erL (encE e) = encE e := by
  induction e using Expr.ind with
  | h k n nm ps ih =>
    rw [encE_mk]
    simp only [erL, DV.er, List.cons.injEq, DV.sl.injEq, true_and, and_true]
    rw [erLL_eq, List.map_map]
    exact List.map_congr_left fun x hx => ih x hx
theorem er_encE (l : List Expr) : erLL (l.map encE) = l.map encE := er_map er_encE1 l
attribute [go_sem] er_encE er_encE1 Expr.eta
theorem Expr.ext' {a b : Expr} : a = b ↔ a.kind = b.kind ∧ a.number = b.number ∧ a.name = b.name ∧ a.parts = b.parts := by
  cases a; cases b; simp [Expr.kind, Expr.number, Expr.name, Expr.parts]
abbrev LE (l : List Expr) (o : Own := .no) : AV := .d (.sl 4 (l.map encE) o)

def bodySame (fn : FuncId) : Prop := ∀ (a : Expr) (k n : Int) (nm : List UInt8) (ps : List Expr), Gives Tryz.prog fn [.agg [.int .i64 a.kind, .int .i64 a.number, .str a.name, .sl 4 (a.parts.map encE) .no], .agg [.int .i64 k, .int .i64 n, .str nm, .sl 4 (ps.map encE) .no]] (B (dec (a = Expr.mk k n nm ps)))
theorem sameE_ok : bodySame 36 := by
  intro a
  induction a using Expr.ind with
  | h k1 n1 m1 p1 ih =>
    intro k n nm ps
    dsimp only [Expr.kind, Expr.number, Expr.name, Expr.parts]
    refine ac_of_body TT Tryz.call36 Tryz.func36 rfl (by simp [Tryz.ntmps36]) (by kernel_rfl) fun E hk => ?_
    (repeat' (first | with_reducible (first | refine awp_seq ?_ | refine awp_block ?_ | refine awp_skip ?_ | refine awp_exit ?_ | refine awp_ret ?_ | refine athen_normal ?_ | refine athen_ret ?_ | refine athen_exit ?_ | refine ablock_normal ?_ | refine ablock_ret ?_ | refine ablock_here ?_ | refine ablock_far rfl ?_ | (refine hK _ ?_; clear K hK) | refine awp_cond_t rfl ?_ | refine awp_cond_f rfl ?_ | intro hfact) | (with_reducible refine And.intro ?_ ?_; focus (first | assumption | omega | (simp; done) | ((repeat' apply And.intro) <;> first | assumption | omega) | ((repeat' split) <;> omega))) | ((first | with_reducible (first | ((refine awp_seqr TT ?_); intro K hK) | ((refine awp_region TT ?_); intro K hK) | ((refine awp_seqrF TT [] MX (by kernel_rfl) (by kernel_rfl) ?_); intro K hK) | ((refine awp_regionF TT [] MX (by kernel_rfl) (by kernel_rfl) ?_); intro K hK)) | (with_reducible (first | refine guard_split_t TT E (fun hb => ?_) (fun hb => ?_) | refine guard_split_f TT E (fun hb => ?_) (fun hb => ?_) | refine guardD_split_t TT _ _ (fun hb => ?_) (fun hb => ?_) | refine guardD_split_f TT _ _ (fun hb => ?_) (fun hb => ?_)) <;> try simp only [hb])) <;> simp only [go_sem, ↓reduceIte, Int.reduceBEq, Int.reduceBNe, Nat.reduceEqDiff, Nat.reduceAdd, Nat.reduceMul, Nat.reduceSub, Nat.reduceLT, Nat.reduceBEq, Nat.reduceLeDiff, reduceCtorEq, Int.reduceToNat, Int.reduceNeg, Int.reduceEq, Int.reduceLE, Int.reduceLT]) | refine awp_condN rfl (fun hb => ?_) (fun hb => ?_) | refine awp_condP rfl (fun hb => ?_) (fun hb => ?_) | refine awp_cond rfl (fun hb => ?_) (fun hb => ?_)))
    all_goals (first | (refine ret_gives TT (by simp only [go_sem, ↓reduceIte, Nat.reduceEqDiff, Nat.reduceAdd, Nat.reduceLT, Nat.reduceLeDiff, reduceCtorEq, Tryz.results36]; rfl) rfl ?_; refine congrArg (fun b => AV.d (.bool b)) (dec_f fun h => ?_).symm; cases h; simp at hb; done) | skip)
    have hlen : p1.length = ps.length := by simp at hb; omega
    refine awp_zip (p1) (List.length (p1)) 36 [] [3, 36, 37] (fun j st => [(38, I j)]) (fun obs j st => obs) (fun j st => []) (fun j rest st nt => p1.take j = ps.take j) (()) (by first | rfl | (simp; done) | (simp; omega)) (by first | rfl | (simp only [go_sem, ↓reduceIte, Nat.reduceEqDiff, Nat.reduceAdd, Nat.reduceLT, Nat.reduceLeDiff, reduceCtorEq]; done) | (simp only [go_sem, ↓reduceIte, Nat.reduceEqDiff, Nat.reduceAdd, Nat.reduceLT, Nat.reduceLeDiff, reduceCtorEq]; simp; done)) (by simp only [go_sem, ↓reduceIte, Nat.reduceEqDiff, Nat.reduceAdd, Nat.reduceLT, Nat.reduceLeDiff, reduceCtorEq]; rfl) (by first | rfl | (simp only [go_sem, ↓reduceIte, Nat.reduceEqDiff, Nat.reduceAdd, Nat.reduceLT, Nat.reduceLeDiff, reduceCtorEq]; rfl)) (rfl) (by unfold ASubW; simp only [go_sem, ↓reduceIte, Nat.reduceEqDiff, Nat.reduceAdd, Nat.reduceLT, Nat.reduceLeDiff, reduceCtorEq, hk]; try simp) ?_ ?_
    · rintro st nt hmax hinv
      (repeat' (first | with_reducible (first | refine awp_seq ?_ | refine awp_block ?_ | refine awp_skip ?_ | refine awp_exit ?_ | refine awp_ret ?_ | refine athen_normal ?_ | refine athen_ret ?_ | refine athen_exit ?_ | refine ablock_normal ?_ | refine ablock_ret ?_ | refine ablock_here ?_ | refine ablock_far rfl ?_ | (refine hK _ ?_; clear K hK) | refine awp_cond_t rfl ?_ | refine awp_cond_f rfl ?_ | intro hfact) | (with_reducible refine And.intro ?_ ?_; focus (first | assumption | omega | (simp; done) | ((repeat' apply And.intro) <;> first | assumption | omega) | ((repeat' split) <;> omega))) | ((first | with_reducible (first | ((refine awp_seqr TT ?_); intro K hK) | ((refine awp_region TT ?_); intro K hK) | ((refine awp_seqrF TT [] MX (by kernel_rfl) (by kernel_rfl) ?_); intro K hK) | ((refine awp_regionF TT [] MX (by kernel_rfl) (by kernel_rfl) ?_); intro K hK)) | (with_reducible (first | refine guard_split_t TT E (fun hb => ?_) (fun hb => ?_) | refine guard_split_f TT E (fun hb => ?_) (fun hb => ?_) | refine guardD_split_t TT _ _ (fun hb => ?_) (fun hb => ?_) | refine guardD_split_f TT _ _ (fun hb => ?_) (fun hb => ?_)) <;> try simp only [hb])) <;> simp only [go_sem, ↓reduceIte, Int.reduceBEq, Int.reduceBNe, Nat.reduceEqDiff, Nat.reduceAdd, Nat.reduceMul, Nat.reduceSub, Nat.reduceLT, Nat.reduceBEq, Nat.reduceLeDiff, reduceCtorEq, Int.reduceToNat, Int.reduceNeg, Int.reduceEq, Int.reduceLE, Int.reduceLT])))
      refine ret_gives TT (by simp only [go_sem, ↓reduceIte, Nat.reduceEqDiff, Nat.reduceAdd, Nat.reduceLT, Nat.reduceLeDiff, reduceCtorEq, Tryz.results36]; rfl) rfl ?_; rw [List.take_of_length_le (Nat.le_refl _), hlen, List.take_of_length_le (Nat.le_refl _)] at hinv
      simp at hb; simp only [resV]; rw [dec_t]; simp_all
    · rintro j x rest st nt hA hinv
      have hj := hA.lt
      obtain ⟨y, hy⟩ : ∃ y, ps[j]? = some y := ⟨ps[j]'(by omega), List.getElem?_eq_getElem _⟩
      have hj2 : j < ps.length := by omega
      have hgy := pick_of hy encE
      (repeat' (first | with_reducible (first | refine awp_seq ?_ | refine awp_block ?_ | refine awp_skip ?_ | refine awp_exit ?_ | refine awp_ret ?_ | refine athen_normal ?_ | refine athen_ret ?_ | refine athen_exit ?_ | refine ablock_normal ?_ | refine ablock_ret ?_ | refine ablock_here ?_ | refine ablock_far rfl ?_ | (refine hK _ ?_; clear K hK) | refine awp_cond_t rfl ?_ | refine awp_cond_f rfl ?_ | intro hfact) | (with_reducible refine And.intro ?_ ?_; focus (first | assumption | omega | (simp; done) | ((repeat' apply And.intro) <;> first | assumption | omega) | ((repeat' split) <;> omega))) | ((first | with_reducible (first | ((refine awp_seqr TT ?_); intro K hK) | ((refine awp_region TT ?_); intro K hK) | ((refine awp_seqrF TT [] MX (by kernel_rfl) (by kernel_rfl) ?_); intro K hK) | ((refine awp_regionF TT [] MX (by kernel_rfl) (by kernel_rfl) ?_); intro K hK)) | (with_reducible (first | refine guard_split_t TT E (fun hb => ?_) (fun hb => ?_) | refine guard_split_f TT E (fun hb => ?_) (fun hb => ?_) | refine guardD_split_t TT _ _ (fun hb => ?_) (fun hb => ?_) | refine guardD_split_f TT _ _ (fun hb => ?_) (fun hb => ?_)) <;> try simp only [hb]) | ((first | refine callK_pure TT E (ih _ hA.mem _ _ _ _) rfl rfl ?_ | refine callKD_pure TT _ _ (ih _ hA.mem _ _ _ _) rfl rfl ?_); intro m hm; try dsimp only at hm)) <;> simp only [go_sem, ↓reduceIte, Int.reduceBEq, Int.reduceBNe, Nat.reduceEqDiff, Nat.reduceAdd, Nat.reduceMul, Nat.reduceSub, Nat.reduceLT, Nat.reduceBEq, Nat.reduceLeDiff, reduceCtorEq, Int.reduceToNat, Int.reduceNeg, Int.reduceEq, Int.reduceLE, Int.reduceLT, hA.d, hA.w, hA.lt, hA.g, encE_eq, hgy, hj2]) | refine awp_condN rfl (fun hb => ?_) (fun hb => ?_) | refine awp_condP rfl (fun hb => ?_) (fun hb => ?_) | refine awp_cond rfl (fun hb => ?_) (fun hb => ?_)))
      · refine ret_gives TT (by simp only [go_sem, ↓reduceIte, Nat.reduceEqDiff, Nat.reduceAdd, Nat.reduceLT, Nat.reduceLeDiff, reduceCtorEq, Tryz.results36]; rfl) rfl ?_; simp only [resV]; rw [dec_f]; simp only [Expr.mk.injEq, not_and]; intro _ _ _ h4; subst h4; rw [hA.get] at hy; cases hy; rw [dec_f_iff] at hb; exact hb rfl
      · have hxy := dec_iff.1 hb
        subst hxy
        refine ⟨(), ?_, (by unfold ASubW; simp only [go_sem, ↓reduceIte, Nat.reduceEqDiff, Nat.reduceAdd, Nat.reduceLT, Nat.reduceLeDiff, reduceCtorEq, hk]; try simp)⟩; rw [hA.snoc, hinv, List.take_add_one, hy]; rfl
end Go.Proofs.YtaolcbhncnpldaaGreatDoor
