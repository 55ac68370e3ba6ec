import Derived.Test.YtdfbaedkcfhdfaaU4
open Int renaming reduceToNat → aF,reduceBEq → aG,reduceBNe → aH,reduceNeg → aI,reduceEq → aJ,reduceLE → aK,reduceLT → aL
open Nat renaming reduceEqDiff → a7,reduceLeDiff → a8,reduceAdd → aA,reduceLT → aB,reduceMul → aC,reduceSub → aD,reduceBEq → aE
namespace Go.Proofs.Ytdfbaedkcfhdfaa
open Go Go.AL
set_option linter.unusedSimpArgs false
set_option linter.unusedVariables false
def ixN (v : Int) : List Int → Int → Int
  | [],_=>-1
  | x :: r,k=>if v = x then k else ixN v r (k + 1)
theorem ixN_any (v : Int) (l : List Int) : ∀ k : Int,0 ≤ k → decide (0 ≤ ixN v l k) = decide (v ∈ l):=by
  induction l with
  | nil=>intro k _;simp [ixN]
  | cons x l ih =>
    intro k hk
    rw [ixN]
    by_cases h : v = x
    · subst h;simp [hk]
    · rw [if_neg h,ih (k + 1) (by omega)]
      simp [h]
theorem ixN_ge (v : Int) (l : List Int) : decide (ixN v l 0 ≥ 0) = decide (v ∈ l):=ixN_any v l 0 (Int.le_refl _)
theorem indexI (l : List Int) (v : Int) : Gives Try.prog 107 [LI l,I v] (I (ixN v l 0)):=by
  refine bE TT Try.call107 Try.func107 rfl (by simp [Try.ntmps107]) (by kernel_rfl) fun E hk=>?_
  (repeat' (first|with_reducible (first|refine bC ?_|refine b7 ?_|refine bB ?_|refine bA ?_|refine bD ?_|refine aR ?_|refine b6 ?_|refine aX ?_|refine aO ?_|refine aY ?_|refine aU ?_|refine aZ rfl ?_|(refine hK _ ?_;clear K hK)|refine b4 rfl ?_|refine b5 rfl ?_|intro hfact)|(with_reducible refine And.intro ?_ ?_;focus (first|assumption|omega|(simp;done)|((repeat' apply And.intro)<;>first|assumption|omega)|((repeat' split)<;>omega)))|((first|with_reducible (first|((refine b9 TT ?_);intro K hK)|((refine aW TT ?_);intro K hK)|((refine b8 TT [] MX (by kernel_rfl) (by kernel_rfl) ?_);intro K hK)|((refine aT TT [] MX (by kernel_rfl) (by kernel_rfl) ?_);intro K hK))|(with_reducible (first|refine aP TT E (fun hb=>?_) (fun hb=>?_)|refine aQ TT E (fun hb=>?_) (fun hb=>?_)|refine aM TT _ _ (fun hb=>?_) (fun hb=>?_)|refine aN TT _ _ (fun hb=>?_) (fun hb=>?_))<;>try simp only [hb]))<;>simp only [go_sem,↓reduceIte,aG,aH,a7,aA,aC,aD,aB,aE,a8,reduceCtorEq,aF,aI,aJ,aK,aL])))
  refine bX (l) (List.length (l)) 0 [] [0,1,7] (fun k st=>[(8,I k)]) (fun obs k st=>obs) (fun k st=>[]) (fun k rest st nt=>ixN v rest k = ixN v l 0) (()) (by first|rfl|(simp;done)|(simp;omega)) (by first|rfl|(simp only [go_sem,↓reduceIte,a7,aA,aB,a8,reduceCtorEq];done)|(simp only [go_sem,↓reduceIte,a7,aA,aB,a8,reduceCtorEq];simp;done)) (by simp only [go_sem,↓reduceIte,a7,aA,aB,a8,reduceCtorEq];rfl) (by first|rfl|(simp only [go_sem,↓reduceIte,a7,aA,aB,a8,reduceCtorEq];rfl)) (rfl) (by unfold ASubW;simp only [go_sem,↓reduceIte,a7,aA,aB,a8,reduceCtorEq,hk];try simp) ?_ ?_
  · rintro st nt hmax hinv
    (repeat' (first|with_reducible (first|refine bC ?_|refine b7 ?_|refine bB ?_|refine bA ?_|refine bD ?_|refine aR ?_|refine b6 ?_|refine aX ?_|refine aO ?_|refine aY ?_|refine aU ?_|refine aZ rfl ?_|(refine hK _ ?_;clear K hK)|refine b4 rfl ?_|refine b5 rfl ?_|intro hfact)|(with_reducible refine And.intro ?_ ?_;focus (first|assumption|omega|(simp;done)|((repeat' apply And.intro)<;>first|assumption|omega)|((repeat' split)<;>omega)))|((first|with_reducible (first|((refine b9 TT ?_);intro K hK)|((refine aW TT ?_);intro K hK)|((refine b8 TT [] MX (by kernel_rfl) (by kernel_rfl) ?_);intro K hK)|((refine aT TT [] MX (by kernel_rfl) (by kernel_rfl) ?_);intro K hK))|(with_reducible (first|refine aP TT E (fun hb=>?_) (fun hb=>?_)|refine aQ TT E (fun hb=>?_) (fun hb=>?_)|refine aM TT _ _ (fun hb=>?_) (fun hb=>?_)|refine aN TT _ _ (fun hb=>?_) (fun hb=>?_))<;>try simp only [hb]))<;>simp only [go_sem,↓reduceIte,aG,aH,a7,aA,aC,aD,aB,aE,a8,reduceCtorEq,aF,aI,aJ,aK,aL])))
    refine bF TT (by simp only [go_sem,↓reduceIte,a7,aA,aB,a8,reduceCtorEq,Try.results107];rfl) rfl ?_;simp [resV,← hinv,ixN]
  · rintro k x rest st nt hA hinv
    rw [ixN] at hinv
    (repeat' (first|with_reducible (first|refine bC ?_|refine b7 ?_|refine bB ?_|refine bA ?_|refine bD ?_|refine aR ?_|refine b6 ?_|refine aX ?_|refine aO ?_|refine aY ?_|refine aU ?_|refine aZ rfl ?_|(refine hK _ ?_;clear K hK)|refine b4 rfl ?_|refine b5 rfl ?_|intro hfact)|(with_reducible refine And.intro ?_ ?_;focus (first|assumption|omega|(simp;done)|((repeat' apply And.intro)<;>first|assumption|omega)|((repeat' split)<;>omega)))|((first|with_reducible (first|((refine b9 TT ?_);intro K hK)|((refine aW TT ?_);intro K hK)|((refine b8 TT [] MX (by kernel_rfl) (by kernel_rfl) ?_);intro K hK)|((refine aT TT [] MX (by kernel_rfl) (by kernel_rfl) ?_);intro K hK))|(with_reducible (first|refine aP TT E (fun hb=>?_) (fun hb=>?_)|refine aQ TT E (fun hb=>?_) (fun hb=>?_)|refine aM TT _ _ (fun hb=>?_) (fun hb=>?_)|refine aN TT _ _ (fun hb=>?_) (fun hb=>?_))<;>try simp only [hb]))<;>simp only [go_sem,↓reduceIte,aG,aH,a7,aA,aC,aD,aB,aE,a8,reduceCtorEq,aF,aI,aJ,aK,aL,hA.d,hA.w,hA.lt,hA.g,encI])|refine bQ rfl (fun hb=>?_) (fun hb=>?_)|refine bP rfl (fun hb=>?_) (fun hb=>?_)|refine bH rfl (fun hb=>?_) (fun hb=>?_)))
    all_goals (try simp at hb)
    all_goals first
      | (rw [if_pos hb] at hinv;refine bF TT (by simp only [go_sem,↓reduceIte,a7,aA,aB,a8,reduceCtorEq,Try.results107];rfl) rfl ?_;simp [resV,hinv];done)
      | (rw [if_neg hb] at hinv;refine ⟨(),hinv,(by unfold ASubW;simp only [go_sem,↓reduceIte,a7,aA,aB,a8,reduceCtorEq,hk];try simp)⟩)
theorem contI (l : List Int) (v : Int) : Gives Try.prog 52 [LI l,I v] (B (decide (v ∈ l))):=by
  refine bE TT Try.call52 Try.func52 rfl (by simp [Try.ntmps52]) (by kernel_rfl) fun E hk=>?_
  (repeat' (first|with_reducible (first|refine bC ?_|refine b7 ?_|refine bB ?_|refine bA ?_|refine bD ?_|refine aR ?_|refine b6 ?_|refine aX ?_|refine aO ?_|refine aY ?_|refine aU ?_|refine aZ rfl ?_|(refine hK _ ?_;clear K hK)|refine b4 rfl ?_|refine b5 rfl ?_|intro hfact)|(with_reducible refine And.intro ?_ ?_;focus (first|assumption|omega|(simp;done)|((repeat' apply And.intro)<;>first|assumption|omega)|((repeat' split)<;>omega)))|((first|with_reducible (first|((refine b9 TT ?_);intro K hK)|((refine aW TT ?_);intro K hK)|((refine b8 TT [] MX (by kernel_rfl) (by kernel_rfl) ?_);intro K hK)|((refine aT TT [] MX (by kernel_rfl) (by kernel_rfl) ?_);intro K hK))|(with_reducible (first|refine aP TT E (fun hb=>?_) (fun hb=>?_)|refine aQ TT E (fun hb=>?_) (fun hb=>?_)|refine aM TT _ _ (fun hb=>?_) (fun hb=>?_)|refine aN TT _ _ (fun hb=>?_) (fun hb=>?_))<;>try simp only [hb])|((first|refine aV TT E (indexI _ _) rfl rfl ?_|refine aS TT _ _ (indexI _ _) rfl rfl ?_);intro m hm;try dsimp only at hm))<;>simp only [go_sem,↓reduceIte,aG,aH,a7,aA,aC,aD,aB,aE,a8,reduceCtorEq,aF,aI,aJ,aK,aL])))
  refine bF TT (by simp only [go_sem,↓reduceIte,a7,aA,aB,a8,reduceCtorEq,Try.results52];rfl) rfl ?_
  simp only [resV];rw [← ixN_ge]
theorem pw_asc : ∀ {l : List Int} {lo hi : Int},ascB l lo hi = true → l.Pairwise (· < ·)
  | [],_,_,_=>.nil
  | n :: r,lo,hi,h=>by
    rw [ascB,Bool.and_eq_true] at h
    refine .cons (fun x hx=>?_) (pw_asc h.2)
    have:=(ascB_mem h.2 x hx).1
    omega
end Go.Proofs.Ytdfbaedkcfhdfaa
