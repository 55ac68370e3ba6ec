import Derived.Test.YtdfbaedkcfhdfaaX4
import Derived.Test.YtdfbaedkcfhdfaaM1
open Int renaming reduceToNat → aF,reduceBEq → aG,reduceBNe → aH,reduceNeg → aI,reduceEq → aJ,reduceLE → aK,reduceLT → aL
open Nat renaming reduceEqDiff → a7,reduceLeDiff → a8,reduceAdd → aA,reduceLT → aB,reduceMul → aC,reduceSub → aD,reduceBEq → aE
namespace Go.Proofs.Ytdfbaedkcfhdfaa
open Go Go.AL
set_option linter.unusedSimpArgs false
set_option linter.unusedVariables false
theorem toIntSO (l : List Int) (Hs : smL (fun _=>True) l) : AC Try.prog 119 [.d (.sl 1 (l.map encI) .no)] [] (OwnR (LI l)):=by
  refine bE TT Try.call119 Try.func119 rfl (by simp [Try.ntmps119]) (by kernel_rfl) fun E hk=>?_
  have hs1 : l.length ≤ 1048576:=Hs.1
  have hlim : l.length * 8 ≤ 281474976710656:=by omega
  (repeat' (first|with_reducible (first|refine bC ?_|refine b7 ?_|refine bB ?_|refine bA ?_|refine bD ?_|refine aR ?_|refine b6 ?_|refine aX ?_|refine aO ?_|refine aY ?_|refine aU ?_|refine aZ rfl ?_|(refine hK _ ?_;clear K hK)|refine b4 rfl ?_|refine b5 rfl ?_|intro hfact)|(with_reducible refine And.intro ?_ ?_;focus (first|assumption|omega|(simp;done)|((repeat' apply And.intro)<;>first|assumption|omega)|((repeat' split)<;>omega)))|((first|with_reducible (first|((refine b9 TT ?_);intro K hK)|((refine aW TT ?_);intro K hK)|((refine b8 TT [] MX (by kernel_rfl) (by kernel_rfl) ?_);intro K hK)|((refine aT TT [] MX (by kernel_rfl) (by kernel_rfl) ?_);intro K hK))|(with_reducible (first|refine aP TT E (fun hb=>?_) (fun hb=>?_)|refine aQ TT E (fun hb=>?_) (fun hb=>?_)|refine aM TT _ _ (fun hb=>?_) (fun hb=>?_)|refine aN TT _ _ (fun hb=>?_) (fun hb=>?_))<;>try simp only [hb]))<;>simp only [go_sem,↓reduceIte,aG,aH,a7,aA,aC,aD,aB,aE,a8,reduceCtorEq,aF,aI,aJ,aK,aL,hlim])))
  refine bX (l) (List.length (l)) 0 [] [0,3] (fun k st=>[(4,I k)]) (fun obs k st=>[.cells (fillA [.int .i64 0] ((l.take k).map encI) l.length)]) (fun k st=>[]) (fun k rest st nt=>E.nt0 ≤ nt) (()) (by first|rfl|(simp;done)|(simp;omega)) (by first|rfl|(simp only [go_sem,↓reduceIte,a7,aA,aB,a8,reduceCtorEq];done)|(simp only [go_sem,↓reduceIte,a7,aA,aB,a8,reduceCtorEq];simp;done)) (by simp only [go_sem,↓reduceIte,a7,aA,aB,a8,reduceCtorEq];rfl) (by first|rfl|(simp only [go_sem,↓reduceIte,a7,aA,aB,a8,reduceCtorEq];rfl)) (Nat.le_refl _) (by unfold ASubW;simp only [go_sem,↓reduceIte,a7,aA,aB,a8,reduceCtorEq,hk];try simp [eW]) ?_ ?_
  · rintro st nt hmax hn
    refine awp_freezeT 3 [0,4] [] rfl rfl rfl (fill_len rfl encI [.int .i64 0] 1 rfl (fun _=>rfl)) rfl (by simp [hk]) rfl ?_
    rw [fill_end rfl encI [.int .i64 0] 1 rfl (fun _=>rfl)]
    (repeat' (first|with_reducible (first|refine bC ?_|refine b7 ?_|refine bB ?_|refine bA ?_|refine bD ?_|refine aR ?_|refine b6 ?_|refine aX ?_|refine aO ?_|refine aY ?_|refine aU ?_|refine aZ rfl ?_|(refine hK _ ?_;clear K hK)|refine b4 rfl ?_|refine b5 rfl ?_|intro hfact)|(with_reducible refine And.intro ?_ ?_;focus (first|assumption|omega|(simp;done)|((repeat' apply And.intro)<;>first|assumption|omega)|((repeat' split)<;>omega)))|((first|with_reducible (first|((refine b9 TT ?_);intro K hK)|((refine aW TT ?_);intro K hK)|((refine b8 TT [] MX (by kernel_rfl) (by kernel_rfl) ?_);intro K hK)|((refine aT TT [] MX (by kernel_rfl) (by kernel_rfl) ?_);intro K hK))|(with_reducible (first|refine aP TT E (fun hb=>?_) (fun hb=>?_)|refine aQ TT E (fun hb=>?_) (fun hb=>?_)|refine aM TT _ _ (fun hb=>?_) (fun hb=>?_)|refine aN TT _ _ (fun hb=>?_) (fun hb=>?_))<;>try simp only [hb]))<;>simp only [go_sem,↓reduceIte,aG,aH,a7,aA,aC,aD,aB,aE,a8,reduceCtorEq,aF,aI,aJ,aK,aL])))
    refine f8 TT (m:=0) (toks:=[nt]) (by simp only [go_sem,↓reduceIte,a7,aA,aB,a8,reduceCtorEq,Try.results119];rfl) (by simp) (fun t h=>h) rfl ⟨rfl,?_,?_,?_,?_⟩
    · exact d9 (sz:=1) (by simp) (dA (fun _=>rfl) l)
    · intro x hx;simp at hx;subst hx;exact ⟨hn,by dsimp only;omega⟩
    · simp [resV,AV.erR,AV.er,DV.er,fC]
    · dsimp only;omega
  · rintro k x rest st nt hA hn
    have h1:=hA.fillL encI [.int .i64 0] 1 rfl (fun _=>rfl)
    have h2:=hA.fillS encI [.int .i64 0] 1 rfl (fun _=>rfl)
    simp only [encI] at h2
    (repeat' (first|with_reducible (first|refine bC ?_|refine b7 ?_|refine bB ?_|refine bA ?_|refine bD ?_|refine aR ?_|refine b6 ?_|refine aX ?_|refine aO ?_|refine aY ?_|refine aU ?_|refine aZ rfl ?_|(refine hK _ ?_;clear K hK)|refine b4 rfl ?_|refine b5 rfl ?_|intro hfact)|(with_reducible refine And.intro ?_ ?_;focus (first|assumption|omega|(simp;done)|((repeat' apply And.intro)<;>first|assumption|omega)|((repeat' split)<;>omega)))|((first|with_reducible (first|((refine b9 TT ?_);intro K hK)|((refine aW TT ?_);intro K hK)|((refine b8 TT [] MX (by kernel_rfl) (by kernel_rfl) ?_);intro K hK)|((refine aT TT [] MX (by kernel_rfl) (by kernel_rfl) ?_);intro K hK))|(with_reducible (first|refine aP TT E (fun hb=>?_) (fun hb=>?_)|refine aQ TT E (fun hb=>?_) (fun hb=>?_)|refine aM TT _ _ (fun hb=>?_) (fun hb=>?_)|refine aN TT _ _ (fun hb=>?_) (fun hb=>?_))<;>try simp only [hb]))<;>simp only [go_sem,↓reduceIte,aG,aH,a7,aA,aC,aD,aB,aE,a8,reduceCtorEq,aF,aI,aJ,aK,aL,hA.d,hA.w,hA.lt,hA.g,encI,h1,h2])))
    refine ⟨(),by first|exact hn|(refine Nat.le_trans hn ?_;dsimp only;omega),(by unfold ASubW;simp only [go_sem,↓reduceIte,a7,aA,aB,a8,reduceCtorEq,hk,h2];try simp)⟩
theorem toFieldSO (l : List Field) (Hs : smL eQ l) : AC Try.prog 120 [.d (.sl 3 (l.map encF) .no)] [] (OwnR (LF l)):=by
  refine bE TT Try.call120 Try.func120 rfl (by simp [Try.ntmps120]) (by kernel_rfl) fun E hk=>?_
  have hs1 : l.length ≤ 1048576:=Hs.1
  have hlim : l.length * 32 ≤ 281474976710656:=by omega
  (repeat' (first|with_reducible (first|refine bC ?_|refine b7 ?_|refine bB ?_|refine bA ?_|refine bD ?_|refine aR ?_|refine b6 ?_|refine aX ?_|refine aO ?_|refine aY ?_|refine aU ?_|refine aZ rfl ?_|(refine hK _ ?_;clear K hK)|refine b4 rfl ?_|refine b5 rfl ?_|intro hfact)|(with_reducible refine And.intro ?_ ?_;focus (first|assumption|omega|(simp;done)|((repeat' apply And.intro)<;>first|assumption|omega)|((repeat' split)<;>omega)))|((first|with_reducible (first|((refine b9 TT ?_);intro K hK)|((refine aW TT ?_);intro K hK)|((refine b8 TT [] MX (by kernel_rfl) (by kernel_rfl) ?_);intro K hK)|((refine aT TT [] MX (by kernel_rfl) (by kernel_rfl) ?_);intro K hK))|(with_reducible (first|refine aP TT E (fun hb=>?_) (fun hb=>?_)|refine aQ TT E (fun hb=>?_) (fun hb=>?_)|refine aM TT _ _ (fun hb=>?_) (fun hb=>?_)|refine aN TT _ _ (fun hb=>?_) (fun hb=>?_))<;>try simp only [hb])|((first|refine aV TT E (cD _ _ _) rfl rfl ?_|refine aS TT _ _ (cD _ _ _) rfl rfl ?_);intro m hm;try dsimp only at hm))<;>simp only [go_sem,↓reduceIte,aG,aH,a7,aA,aC,aD,aB,aE,a8,reduceCtorEq,aF,aI,aJ,aK,aL,hlim])))
  refine bX (l) (List.length (l)) 0 [] [0,3] (fun k st=>[(4,I k)]) (fun obs k st=>[.cells (fillA [.str [],.int .i64 0,.int .i64 0] ((l.take k).map encF) l.length)]) (fun k st=>[]) (fun k rest st nt=>E.nt0 ≤ nt) (()) (by first|rfl|(simp;done)|(simp;omega)) (by first|rfl|(simp only [go_sem,↓reduceIte,a7,aA,aB,a8,reduceCtorEq];done)|(simp only [go_sem,↓reduceIte,a7,aA,aB,a8,reduceCtorEq];simp;done)) (by simp only [go_sem,↓reduceIte,a7,aA,aB,a8,reduceCtorEq];rfl) (by first|rfl|(simp only [go_sem,↓reduceIte,a7,aA,aB,a8,reduceCtorEq];rfl)) (Nat.le_refl _) (by unfold ASubW;simp only [go_sem,↓reduceIte,a7,aA,aB,a8,reduceCtorEq,hk];try simp [eW]) ?_ ?_
  · rintro st nt hmax hn
    refine awp_freezeT 3 [0,4] [] rfl rfl rfl (fill_len rfl encF [.str [],.int .i64 0,.int .i64 0] 3 rfl (fun _=>rfl)) rfl (by simp [hk]) rfl ?_
    rw [fill_end rfl encF [.str [],.int .i64 0,.int .i64 0] 3 rfl (fun _=>rfl)]
    (repeat' (first|with_reducible (first|refine bC ?_|refine b7 ?_|refine bB ?_|refine bA ?_|refine bD ?_|refine aR ?_|refine b6 ?_|refine aX ?_|refine aO ?_|refine aY ?_|refine aU ?_|refine aZ rfl ?_|(refine hK _ ?_;clear K hK)|refine b4 rfl ?_|refine b5 rfl ?_|intro hfact)|(with_reducible refine And.intro ?_ ?_;focus (first|assumption|omega|(simp;done)|((repeat' apply And.intro)<;>first|assumption|omega)|((repeat' split)<;>omega)))|((first|with_reducible (first|((refine b9 TT ?_);intro K hK)|((refine aW TT ?_);intro K hK)|((refine b8 TT [] MX (by kernel_rfl) (by kernel_rfl) ?_);intro K hK)|((refine aT TT [] MX (by kernel_rfl) (by kernel_rfl) ?_);intro K hK))|(with_reducible (first|refine aP TT E (fun hb=>?_) (fun hb=>?_)|refine aQ TT E (fun hb=>?_) (fun hb=>?_)|refine aM TT _ _ (fun hb=>?_) (fun hb=>?_)|refine aN TT _ _ (fun hb=>?_) (fun hb=>?_))<;>try simp only [hb])|((first|refine aV TT E (cD _ _ _) rfl rfl ?_|refine aS TT _ _ (cD _ _ _) rfl rfl ?_);intro m hm;try dsimp only at hm))<;>simp only [go_sem,↓reduceIte,aG,aH,a7,aA,aC,aD,aB,aE,a8,reduceCtorEq,aF,aI,aJ,aK,aL])))
    refine f8 TT (m:=0) (toks:=[nt]) (by simp only [go_sem,↓reduceIte,a7,aA,aB,a8,reduceCtorEq,Try.results120];rfl) (by simp) (fun t h=>h) rfl ⟨rfl,?_,?_,?_,?_⟩
    · exact d9 (sz:=3) (by simp) (dA (fun _=>rfl) l)
    · intro x hx;simp at hx;subst hx;exact ⟨hn,by dsimp only;omega⟩
    · simp [resV,AV.erR,AV.er,DV.er,fA]
    · dsimp only;omega
  · rintro k x rest st nt hA hn
    have h1:=hA.fillL encF [.str [],.int .i64 0,.int .i64 0] 3 rfl (fun _=>rfl)
    have h2:=hA.fillS encF [.str [],.int .i64 0,.int .i64 0] 3 rfl (fun _=>rfl)
    simp only [encF] at h2
    (repeat' (first|with_reducible (first|refine bC ?_|refine b7 ?_|refine bB ?_|refine bA ?_|refine bD ?_|refine aR ?_|refine b6 ?_|refine aX ?_|refine aO ?_|refine aY ?_|refine aU ?_|refine aZ rfl ?_|(refine hK _ ?_;clear K hK)|refine b4 rfl ?_|refine b5 rfl ?_|intro hfact)|(with_reducible refine And.intro ?_ ?_;focus (first|assumption|omega|(simp;done)|((repeat' apply And.intro)<;>first|assumption|omega)|((repeat' split)<;>omega)))|((first|with_reducible (first|((refine b9 TT ?_);intro K hK)|((refine aW TT ?_);intro K hK)|((refine b8 TT [] MX (by kernel_rfl) (by kernel_rfl) ?_);intro K hK)|((refine aT TT [] MX (by kernel_rfl) (by kernel_rfl) ?_);intro K hK))|(with_reducible (first|refine aP TT E (fun hb=>?_) (fun hb=>?_)|refine aQ TT E (fun hb=>?_) (fun hb=>?_)|refine aM TT _ _ (fun hb=>?_) (fun hb=>?_)|refine aN TT _ _ (fun hb=>?_) (fun hb=>?_))<;>try simp only [hb])|((first|refine aV TT E (cD _ _ _) rfl rfl ?_|refine aS TT _ _ (cD _ _ _) rfl rfl ?_);intro m hm;try dsimp only at hm))<;>simp only [go_sem,↓reduceIte,aG,aH,a7,aA,aC,aD,aB,aE,a8,reduceCtorEq,aF,aI,aJ,aK,aL,hA.d,hA.w,hA.lt,hA.g,encF,h1,h2])))
    refine ⟨(),by first|exact hn|(refine Nat.le_trans hn ?_;dsimp only;omega),(by unfold ASubW;simp only [go_sem,↓reduceIte,a7,aA,aB,a8,reduceCtorEq,hk,h2];try simp)⟩
theorem toThingO (groups' : List Int) (fields' : List Field) (H0 : eT (Thing.mk groups' fields')) : AC Try.prog 68 [.agg [.sl 1 (groups'.map encI) .no,.sl 3 (fields'.map encF) .no]] [] (OwnR (.agg [.sl 1 (groups'.map encI) .no,.sl 3 (fields'.map encF) .no])):=by
  refine bE TT Try.call68 Try.func68 rfl (by simp [Try.ntmps68]) (by kernel_rfl) fun E hk=>?_
  (repeat' (first|with_reducible (first|refine bC ?_|refine b7 ?_|refine bB ?_|refine bA ?_|refine bD ?_|refine aR ?_|refine b6 ?_|refine aX ?_|refine aO ?_|refine aY ?_|refine aU ?_|refine aZ rfl ?_|(refine hK _ ?_;clear K hK)|refine b4 rfl ?_|refine b5 rfl ?_|intro hfact)|(with_reducible refine And.intro ?_ ?_;focus (first|assumption|omega|(simp;done)|((repeat' apply And.intro)<;>first|assumption|omega)|((repeat' split)<;>omega)))|((first|with_reducible (first|((refine b9 TT ?_);intro K hK)|((refine aW TT ?_);intro K hK)|((refine b8 TT [] MX (by kernel_rfl) (by kernel_rfl) ?_);intro K hK)|((refine aT TT [] MX (by kernel_rfl) (by kernel_rfl) ?_);intro K hK))|(with_reducible (first|refine aP TT E (fun hb=>?_) (fun hb=>?_)|refine aQ TT E (fun hb=>?_) (fun hb=>?_)|refine aM TT _ _ (fun hb=>?_) (fun hb=>?_)|refine aN TT _ _ (fun hb=>?_) (fun hb=>?_))<;>try simp only [hb]))<;>simp only [go_sem,↓reduceIte,aG,aH,a7,aA,aC,aD,aB,aE,a8,reduceCtorEq,aF,aI,aJ,aK,aL])))
  refine eM TT E [] (toIntSO groups' H0.1) rfl rfl rfl (by decide) ?_
  rintro r os t0 m0 ⟨rfl,hO,hT0,hE,hm0⟩
  obtain ⟨D0,rfl,hD0,hO0⟩:=own_d hO hE
  dsimp only at hT0 hm0
  simp only [go_sem,↓reduceIte,a7,aA,aB,a8,reduceCtorEq]
  (repeat' (first|with_reducible (first|refine bC ?_|refine b7 ?_|refine bB ?_|refine bA ?_|refine bD ?_|refine aR ?_|refine b6 ?_|refine aX ?_|refine aO ?_|refine aY ?_|refine aU ?_|refine aZ rfl ?_|(refine hK _ ?_;clear K hK)|refine b4 rfl ?_|refine b5 rfl ?_|intro hfact)|(with_reducible refine And.intro ?_ ?_;focus (first|assumption|omega|(simp;done)|((repeat' apply And.intro)<;>first|assumption|omega)|((repeat' split)<;>omega)))|((first|with_reducible (first|((refine b9 TT ?_);intro K hK)|((refine aW TT ?_);intro K hK)|((refine b8 TT [] MX (by kernel_rfl) (by kernel_rfl) ?_);intro K hK)|((refine aT TT [] MX (by kernel_rfl) (by kernel_rfl) ?_);intro K hK))|(with_reducible (first|refine aP TT E (fun hb=>?_) (fun hb=>?_)|refine aQ TT E (fun hb=>?_) (fun hb=>?_)|refine aM TT _ _ (fun hb=>?_) (fun hb=>?_)|refine aN TT _ _ (fun hb=>?_) (fun hb=>?_))<;>try simp only [hb]))<;>simp only [go_sem,↓reduceIte,aG,aH,a7,aA,aC,aD,aB,aE,a8,reduceCtorEq,aF,aI,aJ,aK,aL,hD0])))
  refine eM TT E [] (toFieldSO fields' H0.2) rfl rfl rfl (by decide) ?_
  rintro r os t1 m1 ⟨rfl,hO,hT1,hE,hm1⟩
  obtain ⟨D1,rfl,hD1,hO1⟩:=own_d hO hE
  dsimp only at hT1 hm1
  simp only [go_sem,↓reduceIte,a7,aA,aB,a8,reduceCtorEq]
  (repeat' (first|with_reducible (first|refine bC ?_|refine b7 ?_|refine bB ?_|refine bA ?_|refine bD ?_|refine aR ?_|refine b6 ?_|refine aX ?_|refine aO ?_|refine aY ?_|refine aU ?_|refine aZ rfl ?_|(refine hK _ ?_;clear K hK)|refine b4 rfl ?_|refine b5 rfl ?_|intro hfact)|(with_reducible refine And.intro ?_ ?_;focus (first|assumption|omega|(simp;done)|((repeat' apply And.intro)<;>first|assumption|omega)|((repeat' split)<;>omega)))|((first|with_reducible (first|((refine b9 TT ?_);intro K hK)|((refine aW TT ?_);intro K hK)|((refine b8 TT [] MX (by kernel_rfl) (by kernel_rfl) ?_);intro K hK)|((refine aT TT [] MX (by kernel_rfl) (by kernel_rfl) ?_);intro K hK))|(with_reducible (first|refine aP TT E (fun hb=>?_) (fun hb=>?_)|refine aQ TT E (fun hb=>?_) (fun hb=>?_)|refine aM TT _ _ (fun hb=>?_) (fun hb=>?_)|refine aN TT _ _ (fun hb=>?_) (fun hb=>?_))<;>try simp only [hb]))<;>simp only [go_sem,↓reduceIte,aG,aH,a7,aA,aC,aD,aB,aE,a8,reduceCtorEq,aF,aI,aJ,aK,aL,hD0,hD1])))
  refine f8 TT (m:=0) (toks:=t0 ++ t1) (by simp only [go_sem,↓reduceIte,a7,aA,aB,a8,reduceCtorEq,Try.results68];rfl) (by simp) (by intro t ht;simp at ht ⊢;rcases ht with h|h<;>simp [h]) rfl ⟨rfl,?_,?_,?_,?_⟩
  · exact eY hO0 (fX hO1) (disj_lt (fun x hx=>(hT0 x hx).2) (fun x hx=>(hT1 x hx).1))
  · intro x hx;rcases List.mem_append.1 hx with h|h;(have:=hT0 x h;exact ⟨this.1,by dsimp only;omega⟩);(have:=hT1 x h;exact ⟨by omega,this.2⟩)
  · simp [resV,AV.erR,AV.er,DV.er,erL,hD0,hD1]
  · dsimp only;omega
theorem toThingSO (l : List Thing) (Hs : smL eT l) : AC Try.prog 20 [LT l] [] (OwnR (LT l)):=by
  refine bE TT Try.call20 Try.func20 rfl (by simp [Try.ntmps20]) (by kernel_rfl) fun E hk=>?_
  have hs1 : l.length ≤ 1048576:=Hs.1
  have hlim : l.length * 48 ≤ 281474976710656:=by omega
  (repeat' (first|with_reducible (first|refine bC ?_|refine b7 ?_|refine bB ?_|refine bA ?_|refine bD ?_|refine aR ?_|refine b6 ?_|refine aX ?_|refine aO ?_|refine aY ?_|refine aU ?_|refine aZ rfl ?_|(refine hK _ ?_;clear K hK)|refine b4 rfl ?_|refine b5 rfl ?_|intro hfact)|(with_reducible refine And.intro ?_ ?_;focus (first|assumption|omega|(simp;done)|((repeat' apply And.intro)<;>first|assumption|omega)|((repeat' split)<;>omega)))|((first|with_reducible (first|((refine b9 TT ?_);intro K hK)|((refine aW TT ?_);intro K hK)|((refine b8 TT [] MX (by kernel_rfl) (by kernel_rfl) ?_);intro K hK)|((refine aT TT [] MX (by kernel_rfl) (by kernel_rfl) ?_);intro K hK))|(with_reducible (first|refine aP TT E (fun hb=>?_) (fun hb=>?_)|refine aQ TT E (fun hb=>?_) (fun hb=>?_)|refine aM TT _ _ (fun hb=>?_) (fun hb=>?_)|refine aN TT _ _ (fun hb=>?_) (fun hb=>?_))<;>try simp only [hb]))<;>simp only [go_sem,↓reduceIte,aG,aH,a7,aA,aC,aD,aB,aE,a8,reduceCtorEq,aF,aI,aJ,aK,aL,hlim])))
  refine bX (l) (List.length (l)) 0 [] [0,3] (fun k st=>[(4,I k)]) (fun obs k st=>[.cells (fillA [.sl 1 [] .full,.sl 3 [] .full] st.1 l.length)]) (fun k st=>st.2) (fun k rest st nt=>(erLL st.1 = (l.take k).map encT ∧ ownLL st.1 st.2 ∧ (∀ t ∈ st.2,E.nt0 ≤ t ∧ t < nt)) ∧ (∀ y ∈ st.1,y.length = 2) ∧ st.1.length = k ∧ E.nt0 ≤ nt) ((([] : List (List DV)),([] : List Nat))) (by first|rfl|(simp;done)|(simp;omega)) (by first|rfl|(simp only [go_sem,↓reduceIte,a7,aA,aB,a8,reduceCtorEq];done)|(simp only [go_sem,↓reduceIte,a7,aA,aB,a8,reduceCtorEq];simp;done)) (by simp only [go_sem,↓reduceIte,a7,aA,aB,a8,reduceCtorEq];rfl) (by first|rfl|(simp only [go_sem,↓reduceIte,a7,aA,aB,a8,reduceCtorEq];rfl)) (⟨⟨by simp [erLL],by simp [ownLL],by simp⟩,by simp,rfl,Nat.le_refl _⟩) (by unfold ASubW;simp only [go_sem,↓reduceIte,a7,aA,aB,a8,reduceCtorEq,hk];try simp [eW]) ?_ ?_
  · rintro ⟨xs,ts⟩ nt hmax ⟨⟨h1,h2,h3⟩,h4,h5,h6⟩
    dsimp only at h1 h2 h3 h4 h5
    rw [List.take_length] at h1
    refine awp_freezeT 3 [0,4] [] rfl rfl rfl (fillA_len (z:=[.sl 1 [] .full,.sl 3 [] .full]) (n:=l.length) h4 (Nat.le_of_eq h5)) rfl (by simp [hk]) rfl ?_
    rw [show chunk 2 l.length (fillA [.sl 1 [] .full,.sl 3 [] .full] xs l.length) = xs from fillA_full (z:=[.sl 1 [] .full,.sl 3 [] .full]) h4 h5]
    (repeat' (first|with_reducible (first|refine bC ?_|refine b7 ?_|refine bB ?_|refine bA ?_|refine bD ?_|refine aR ?_|refine b6 ?_|refine aX ?_|refine aO ?_|refine aY ?_|refine aU ?_|refine aZ rfl ?_|(refine hK _ ?_;clear K hK)|refine b4 rfl ?_|refine b5 rfl ?_|intro hfact)|(with_reducible refine And.intro ?_ ?_;focus (first|assumption|omega|(simp;done)|((repeat' apply And.intro)<;>first|assumption|omega)|((repeat' split)<;>omega)))|((first|with_reducible (first|((refine b9 TT ?_);intro K hK)|((refine aW TT ?_);intro K hK)|((refine b8 TT [] MX (by kernel_rfl) (by kernel_rfl) ?_);intro K hK)|((refine aT TT [] MX (by kernel_rfl) (by kernel_rfl) ?_);intro K hK))|(with_reducible (first|refine aP TT E (fun hb=>?_) (fun hb=>?_)|refine aQ TT E (fun hb=>?_) (fun hb=>?_)|refine aM TT _ _ (fun hb=>?_) (fun hb=>?_)|refine aN TT _ _ (fun hb=>?_) (fun hb=>?_))<;>try simp only [hb]))<;>simp only [go_sem,↓reduceIte,aG,aH,a7,aA,aC,aD,aB,aE,a8,reduceCtorEq,aF,aI,aJ,aK,aL])))
    refine f8 TT (m:=0) (toks:=nt :: ts) (by simp only [go_sem,↓reduceIte,a7,aA,aB,a8,reduceCtorEq,Try.results20];rfl) (by simp) (fun t h=>h) rfl ⟨rfl,?_,?_,?_,?_⟩
    · exact d9 (sz:=2) (fun hin=>by have:=(h3 _ hin).2;omega) h2
    · intro x hx;simp at hx;rcases hx with rfl|hx
      · exact ⟨h6,by dsimp only;omega⟩
      · have:=h3 x hx;exact ⟨this.1,by dsimp only;omega⟩
    · simp [resV,AV.erR,AV.er,DV.er,h1]
    · dsimp only;omega
  · rintro k x rest ⟨xs,ts⟩ nt hA ⟨⟨h1,h2,h3⟩,h4,h5,h6⟩
    dsimp only at h1 h2 h3 h4 h5
    have hsx:=Hs.2 x hA.mem
    (repeat' (first|with_reducible (first|refine bC ?_|refine b7 ?_|refine bB ?_|refine bA ?_|refine bD ?_|refine aR ?_|refine b6 ?_|refine aX ?_|refine aO ?_|refine aY ?_|refine aU ?_|refine aZ rfl ?_|(refine hK _ ?_;clear K hK)|refine b4 rfl ?_|refine b5 rfl ?_|intro hfact)|(with_reducible refine And.intro ?_ ?_;focus (first|assumption|omega|(simp;done)|((repeat' apply And.intro)<;>first|assumption|omega)|((repeat' split)<;>omega)))|((first|with_reducible (first|((refine b9 TT ?_);intro K hK)|((refine aW TT ?_);intro K hK)|((refine b8 TT [] MX (by kernel_rfl) (by kernel_rfl) ?_);intro K hK)|((refine aT TT [] MX (by kernel_rfl) (by kernel_rfl) ?_);intro K hK))|(with_reducible (first|refine aP TT E (fun hb=>?_) (fun hb=>?_)|refine aQ TT E (fun hb=>?_) (fun hb=>?_)|refine aM TT _ _ (fun hb=>?_) (fun hb=>?_)|refine aN TT _ _ (fun hb=>?_) (fun hb=>?_))<;>try simp only [hb]))<;>simp only [go_sem,↓reduceIte,aG,aH,a7,aA,aC,aD,aB,aE,a8,reduceCtorEq,aF,aI,aJ,aK,aL,hA.d,hA.w,hA.lt,hA.g,encT])))
    refine eM TT E [] (toThingO x.groups x.fields hsx) rfl rfl rfl (by decide) ?_
    rintro r os t1 m1 ⟨rfl,hO,hT1,hE,hm1⟩
    obtain ⟨cs,rfl,hcs,hO1,hlen⟩:=own_agg hO hE
    dsimp only at hT1 hm1
    have hl : cs.length = 2:=hlen
    have hkl:=hA.lt
    have g1 : k * 2 + 2 ≤ (fillA [.sl 1 [] .full,.sl 3 [] .full] xs l.length).length:=by rw [fillA_len (z:=[.sl 1 [] .full,.sl 3 [] .full]) h4 (by omega)];simp only [List.length_cons,List.length_nil];omega
    have g2 : layL (fillA [.sl 1 [] .full,.sl 3 [] .full] xs l.length) (k * 2) cs = fillA [.sl 1 [] .full,.sl 3 [] .full] (xs ++ [cs]) l.length:=by
      have:=fillA_set (z:=[.sl 1 [] .full,.sl 3 [] .full]) (y:=cs) (n:=l.length) h4 hl (by omega)
      rw [h5] at this
      exact this
    simp only [go_sem,↓reduceIte,a7,aA,aB,a8,reduceCtorEq]
    (repeat' (first|with_reducible (first|refine bC ?_|refine b7 ?_|refine bB ?_|refine bA ?_|refine bD ?_|refine aR ?_|refine b6 ?_|refine aX ?_|refine aO ?_|refine aY ?_|refine aU ?_|refine aZ rfl ?_|(refine hK _ ?_;clear K hK)|refine b4 rfl ?_|refine b5 rfl ?_|intro hfact)|(with_reducible refine And.intro ?_ ?_;focus (first|assumption|omega|(simp;done)|((repeat' apply And.intro)<;>first|assumption|omega)|((repeat' split)<;>omega)))|((first|with_reducible (first|((refine b9 TT ?_);intro K hK)|((refine aW TT ?_);intro K hK)|((refine b8 TT [] MX (by kernel_rfl) (by kernel_rfl) ?_);intro K hK)|((refine aT TT [] MX (by kernel_rfl) (by kernel_rfl) ?_);intro K hK))|(with_reducible (first|refine aP TT E (fun hb=>?_) (fun hb=>?_)|refine aQ TT E (fun hb=>?_) (fun hb=>?_)|refine aM TT _ _ (fun hb=>?_) (fun hb=>?_)|refine aN TT _ _ (fun hb=>?_) (fun hb=>?_))<;>try simp only [hb]))<;>simp only [go_sem,↓reduceIte,aG,aH,a7,aA,aC,aD,aB,aE,a8,reduceCtorEq,aF,aI,aJ,aK,aL,hl,g1,g2,hA.lt,hA.w])))
    refine ⟨(xs ++ [cs],ts ++ t1),⟨⟨?_,?_,?_⟩,?_,?_,?_⟩,?_⟩
    · rw [erLL_append,hA.snoc,List.map_append,h1];simp [erLL,hcs,encT]
    · exact ownLL_snoc h2 hO1 (disj_lt (fun t ht=>(h3 t ht).2) (fun t ht=>(hT1 t ht).1))
    · intro t ht;rcases List.mem_append.1 ht with h|h
      · have:=h3 t h;exact ⟨this.1,by dsimp only;omega⟩
      · have:=hT1 t h;exact ⟨by omega,this.2⟩
    · intro y hy;rcases List.mem_append.1 hy with h|h
      · exact h4 y h
      · simp at h;subst h;exact hl
    · simp [h5]
    · dsimp only;omega
    · unfold ASubW;simp only [go_sem,↓reduceIte,a7,aA,aB,a8,reduceCtorEq,hk,g2];(try simp);(try (intro t ht;rcases ht with ht|ht<;>simp [ht]))
end Go.Proofs.Ytdfbaedkcfhdfaa
