import Derived.Test.YtmlnpimlfbfkbaaGreatM1P
open Int renaming reduceToNat → aE,reduceBEq → aF,reduceBNe → aG,reduceNeg → aH,reduceEq → aI,reduceLE → aJ,reduceLT → aK
open Nat renaming reduceEqDiff → a7,reduceLeDiff → a8,reduceAdd → a9,reduceLT → aA,reduceMul → aB,reduceSub → aC,reduceBEq → aD
namespace Go.Proofs.YtmlnpimlfbfkbaaGreat
open Go Go.AL
set_option linter.unusedSimpArgs false
set_option linter.unusedVariables false
theorem Ekind_mk (k n : Int) (nm : List UInt8) (ps : List Expr) : (Expr.mk k n nm ps).kind = k:=rfl
theorem Enumber_mk (k n : Int) (nm : List UInt8) (ps : List Expr) : (Expr.mk k n nm ps).number = n:=rfl
theorem Ename_mk (k n : Int) (nm : List UInt8) (ps : List Expr) : (Expr.mk k n nm ps).name = nm:=rfl
theorem Eparts_mk (k n : Int) (nm : List UInt8) (ps : List Expr) : (Expr.mk k n nm ps).parts = ps:=rfl
theorem heldP_ok (l : List Policy) (k : Int) (H0 : 0 ≤ k) (H1 : k + cnL cP l ≤ 1000000000000000) : Gives Tryz.prog 56 [LPm (mkL fP cP l k),I k] (I (k + cnL cP l)):=by
  refine bD TT Tryz.call56 Tryz.func56 rfl (by simp [Tryz.ntmps56]) (by kernel_rfl) fun E hk=>?_
  (repeat' (first|with_reducible (first|refine bB ?_|refine b6 ?_|refine b8 ?_|refine b9 ?_|refine bC ?_|refine aS ?_|refine b5 ?_|refine aY ?_|refine aQ ?_|refine aZ ?_|refine aT ?_|refine b4 rfl ?_|(refine hK _ ?_;clear K hK)|refine aW rfl ?_|refine aX rfl ?_|intro hfact)|(with_reducible refine And.intro ?_ ?_;focus (first|assumption|omega|(simp;done)|((repeat' apply And.intro)<;>first|assumption|omega)|((repeat' split)<;>omega)))|((first|with_reducible (first|((refine bA TT ?_);intro K hK)|((refine aV TT ?_);intro K hK)|((refine b7 TT [] MX (by kernel_rfl) (by kernel_rfl) ?_);intro K hK)|((refine aU TT [] MX (by kernel_rfl) (by kernel_rfl) ?_);intro K hK))|(with_reducible (first|refine aR TT E (fun hb=>?_) (fun hb=>?_)|refine aP TT E (fun hb=>?_) (fun hb=>?_)|refine aO TT _ _ (fun hb=>?_) (fun hb=>?_)|refine aN TT _ _ (fun hb=>?_) (fun hb=>?_))<;>try simp only [hb])|((first|refine aM TT E (dP _ (by first|assumption|omega|(refine (?_ : (0 : Int) ≤ _ → _) ?_<;>first|assumption|omega)|(simp;done)|(simp;omega))) rfl rfl ?_|refine aL TT _ _ (dP _ (by first|assumption|omega|(refine (?_ : (0 : Int) ≤ _ → _) ?_<;>first|assumption|omega)|(simp;done)|(simp;omega))) rfl rfl ?_);intro m hm;try dsimp only at hm))<;>simp only [go_sem,↓reduceIte,aF,aG,a7,a9,aB,aC,aA,aD,a8,reduceCtorEq,aE,aH,aI,aJ,aK])))
  refine bQ (mkL fP cP l k) (List.length (mkL fP cP l k)) 0 [] [0] (fun j s=>[(1,I s.1),(5,I j)]) (fun obs j s=>obs) (fun j s=>[]) (fun j rest s nt=>rest = mkL fP cP s.2 s.1 ∧ s.1 + cnL cP s.2 = k + cnL cP l ∧ 0 ≤ s.1) ((k,l)) (by first|rfl|(simp;done)|(simp;omega)) (by first|rfl|(simp only [go_sem,↓reduceIte,a7,a9,aA,a8,reduceCtorEq];done)|(simp only [go_sem,↓reduceIte,a7,a9,aA,a8,reduceCtorEq];simp;done)) (by simp only [go_sem,↓reduceIte,a7,a9,aA,a8,reduceCtorEq];rfl) (by first|rfl|(simp only [go_sem,↓reduceIte,a7,a9,aA,a8,reduceCtorEq];rfl)) (⟨rfl,rfl,H0⟩) (by unfold ASubW;simp only [go_sem,↓reduceIte,a7,a9,aA,a8,reduceCtorEq,hk];try simp) ?_ ?_
  · rintro ⟨kk,r⟩ nt hmax ⟨h1,h2,h3⟩
    cases r with
    | cons y r=>simp [mkL] at h1
    | nil =>
      (repeat' (first|with_reducible (first|refine bB ?_|refine b6 ?_|refine b8 ?_|refine b9 ?_|refine bC ?_|refine aS ?_|refine b5 ?_|refine aY ?_|refine aQ ?_|refine aZ ?_|refine aT ?_|refine b4 rfl ?_|(refine hK _ ?_;clear K hK)|refine aW rfl ?_|refine aX rfl ?_|intro hfact)|(with_reducible refine And.intro ?_ ?_;focus (first|assumption|omega|(simp;done)|((repeat' apply And.intro)<;>first|assumption|omega)|((repeat' split)<;>omega)))|((first|with_reducible (first|((refine bA TT ?_);intro K hK)|((refine aV TT ?_);intro K hK)|((refine b7 TT [] MX (by kernel_rfl) (by kernel_rfl) ?_);intro K hK)|((refine aU TT [] MX (by kernel_rfl) (by kernel_rfl) ?_);intro K hK))|(with_reducible (first|refine aR TT E (fun hb=>?_) (fun hb=>?_)|refine aP TT E (fun hb=>?_) (fun hb=>?_)|refine aO TT _ _ (fun hb=>?_) (fun hb=>?_)|refine aN TT _ _ (fun hb=>?_) (fun hb=>?_))<;>try simp only [hb])|((first|refine aM TT E (dP _ (by first|assumption|omega|(refine (?_ : (0 : Int) ≤ _ → _) ?_<;>first|assumption|omega)|(simp;done)|(simp;omega))) rfl rfl ?_|refine aL TT _ _ (dP _ (by first|assumption|omega|(refine (?_ : (0 : Int) ≤ _ → _) ?_<;>first|assumption|omega)|(simp;done)|(simp;omega))) rfl rfl ?_);intro m hm;try dsimp only at hm))<;>simp only [go_sem,↓reduceIte,aF,aG,a7,a9,aB,aC,aA,aD,a8,reduceCtorEq,aE,aH,aI,aJ,aK])))
      refine bE TT (by simp only [go_sem,↓reduceIte,a7,a9,aA,a8,reduceCtorEq,Tryz.results56];rfl) rfl ?_;simp only [resV,cnL] at *;rw [← h2];simp
  · rintro j x rest ⟨kk,r⟩ nt hA ⟨h1,h2,h3⟩
    cases r with
    | nil=>simp [mkL] at h1
    | cons y r =>
      simp only [mkL,List.cons.injEq] at h1
      obtain ⟨hxx,hrest⟩:=h1
      rw [hxx] at hA
      simp only [cnL] at h2;rw [cP_eq] at h2
      dsimp only at h3
      have hn2:=dM cE cE_nn y.when.parts
      have hcu:=cP_eq y
      have hcr:=dM cP cP_nn r
      have hw1 : IntKind.i64.wrap (kk + 1) = kk + 1:=bT (by omega)
      have hw2 : IntKind.i64.wrap (kk + 1 + 1) = kk + 1 + 1:=bT (by omega)
      have hw3 : IntKind.i64.wrap (kk + 1 + 1 + 1) = kk + 1 + 1 + 1:=bT (by omega)
      have hw4 : IntKind.i64.wrap (kk + 1 + 1 + 1 + 1) = kk + 1 + 1 + 1 + 1:=bT (by omega)
      have hw5 : IntKind.i64.wrap (kk + 1 + 1 + 1 + 1 + 1) = kk + 1 + 1 + 1 + 1 + 1:=bT (by omega)
      have hw6 : IntKind.i64.wrap (kk + 1 + 1 + 1 + 1 + 1 + 1) = kk + 1 + 1 + 1 + 1 + 1 + 1:=bT (by omega)
      have hw7 : IntKind.i64.wrap (kk + 1 + 1 + 1 + 1 + 1 + 1 + 1) = kk + 1 + 1 + 1 + 1 + 1 + 1 + 1:=bT (by omega)
      have hw8 : IntKind.i64.wrap (kk + 1 + 1 + 1 + 1 + 1 + 1 + 1 + 1) = kk + 1 + 1 + 1 + 1 + 1 + 1 + 1 + 1:=bT (by omega)
      (repeat' (first|with_reducible (first|refine bB ?_|refine b6 ?_|refine b8 ?_|refine b9 ?_|refine bC ?_|refine aS ?_|refine b5 ?_|refine aY ?_|refine aQ ?_|refine aZ ?_|refine aT ?_|refine b4 rfl ?_|(refine hK _ ?_;clear K hK)|refine aW rfl ?_|refine aX rfl ?_|intro hfact)|(with_reducible refine And.intro ?_ ?_;focus (first|assumption|omega|(simp;done)|((repeat' apply And.intro)<;>first|assumption|omega)|((repeat' split)<;>omega)))|((first|with_reducible (first|((refine bA TT ?_);intro K hK)|((refine aV TT ?_);intro K hK)|((refine b7 TT [] MX (by kernel_rfl) (by kernel_rfl) ?_);intro K hK)|((refine aU TT [] MX (by kernel_rfl) (by kernel_rfl) ?_);intro K hK))|(with_reducible (first|refine aR TT E (fun hb=>?_) (fun hb=>?_)|refine aP TT E (fun hb=>?_) (fun hb=>?_)|refine aO TT _ _ (fun hb=>?_) (fun hb=>?_)|refine aN TT _ _ (fun hb=>?_) (fun hb=>?_))<;>try simp only [hb])|((first|refine aM TT E (dP _ (by omega)) rfl rfl ?_|refine aL TT _ _ (dP _ (by omega)) rfl rfl ?_);intro m hm;try dsimp only at hm)|((first|refine aM TT E (heldE_ok _ _ (by omega) (by omega)) rfl rfl ?_|refine aL TT _ _ (heldE_ok _ _ (by omega) (by omega)) rfl rfl ?_);intro m hm;try dsimp only at hm))<;>simp only [go_sem,↓reduceIte,aF,aG,a7,a9,aB,aC,aA,aD,a8,reduceCtorEq,aE,aH,aI,aJ,aK,hA.d,hA.w,hA.lt,hA.g,bL,fP,hw1,hw2,hw3,hw4,hw5,hw6,hw7,hw8,Ekind_mk,Enumber_mk,Ename_mk,Eparts_mk])|refine bG rfl (fun hb=>?_) (fun hb=>?_)|refine bH rfl (fun hb=>?_) (fun hb=>?_)|refine bF rfl (fun hb=>?_) (fun hb=>?_)))
      all_goals first|(exfalso;omega)|skip
      refine ⟨(kk + 1 + 1 + 1 + 1 + 1 + 1 + 1 + 1 + cnL cE y.when.parts,r),⟨by rw [hrest];(first|rfl|(rw [cP_eq];congr 1;omega)),by dsimp only;omega,by dsimp only;omega⟩,(by unfold ASubW;simp only [go_sem,↓reduceIte,a7,a9,aA,a8,reduceCtorEq,hk];try simp)⟩
end Go.Proofs.YtmlnpimlfbfkbaaGreat
