import Derived.Test.YtfdjfiabdgmlhaaL0
import Derived.Test.YtfdjfiabdgmlhaaD4
namespace Go.Proofs.Ytfdjfiabdgmlhaa
open Go Go.AL
set_option linter.unusedSimpArgs false
set_option linter.unusedVariables false
def isFD (v : AV) : Prop:=∃ (w : List Thing) (fs : List Field) (a b : List Policy),v = .tup [LT w,LF fs,LP a,LP b] ∧ smallP a ∧ smallP b ∧ a.length ≤ 9 ∧ b.length ≤ 9 ∧ fs.length ≤ 6
theorem sq_ok (w1 a1 t1 : Int) (f1 : List Field) (w2 a2 t2 : Int) (f2 : List Field) : Gives Try.prog 40 [.agg [.int .i64 w1,.int .i64 a1,.int .i64 t1,.sl 3 (f1.map encF) .no],.agg [.int .i64 w2,.int .i64 a2,.int .i64 t2,.sl 3 (f2.map encF) .no]] (B (dec ((⟨w1,a1,t1,f1⟩ : Request) = ⟨w2,a2,t2,f2⟩))):=by
  refine bF TT Try.call40 Try.func40 rfl (by simp [Try.ntmps40]) (by kernel_rfl) fun E hk=>?_
  (repeat' (first|with_reducible (first|refine bD ?_|refine b6 ?_|refine bB ?_|refine bC ?_|refine bE ?_|refine aT ?_|refine b7 ?_|refine aX ?_|refine aQ ?_|refine b4 ?_|refine aU ?_|refine aY rfl ?_|(refine hK _ ?_;clear K hK)|refine b5 rfl ?_|refine aZ rfl ?_|intro hfact)|(with_reducible refine And.intro ?_ ?_;focus (first|assumption|omega|(simp;done)|((repeat' apply And.intro)<;>first|assumption|omega)|((repeat' split)<;>omega)))|((first|with_reducible (first|((refine bA TT ?_);intro K hK)|((refine aW TT ?_);intro K hK)|((refine b8 TT [] MX (by kernel_rfl) (by kernel_rfl) ?_);intro K hK)|((refine aV TT [] MX (by kernel_rfl) (by kernel_rfl) ?_);intro K hK))|(with_reducible (first|refine aR TT E (fun hb=>?_) (fun hb=>?_)|refine aS TT E (fun hb=>?_) (fun hb=>?_)|refine aO TT _ _ (fun hb=>?_) (fun hb=>?_)|refine aP TT _ _ (fun hb=>?_) (fun hb=>?_))<;>try simp only [hb])|((first|refine aN TT E (sf_ok _ _) rfl rfl ?_|refine aM TT _ _ (sf_ok _ _) rfl rfl ?_);intro m hm;try dsimp only at hm))<;>simp only [go_sem,↓reduceIte,Int.reduceBEq,Int.reduceBNe,Nat.reduceEqDiff,Nat.reduceAdd,Nat.reduceMul,Nat.reduceSub,Nat.reduceLT,Nat.reduceBEq,Nat.reduceLeDiff,reduceCtorEq,Int.reduceToNat,Int.reduceNeg,Int.reduceEq,Int.reduceLE,Int.reduceLT])|refine bH rfl (fun hb=>?_) (fun hb=>?_)))
  all_goals (refine bG TT (by simp only [go_sem,↓reduceIte,Nat.reduceEqDiff,Nat.reduceAdd,Nat.reduceLT,Nat.reduceLeDiff,reduceCtorEq,Try.results40];rfl) rfl ?_;simp only [resV];first|(rw [dec_t (by simp_all [dec_iff])];done)|(rw [dec_f (by simp_all [dec_f_iff])];done)|(simp_all;done))
theorem dec_True : dec True = true:=dec_t trivial
end Go.Proofs.Ytfdjfiabdgmlhaa
