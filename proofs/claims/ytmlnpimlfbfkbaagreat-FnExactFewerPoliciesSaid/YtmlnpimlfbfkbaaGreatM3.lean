import Derived.Test.YtmlnpimlfbfkbaaGreatX1
import Derived.Test.YtmlnpimlfbfkbaaGreatM1
open Int renaming reduceToNat → aE,reduceBEq → aF,reduceBNe → aG,reduceNeg → aH,reduceEq → aI,reduceLE → aJ,reduceLT → aK
open Nat renaming reduceEqDiff → a7,reduceLeDiff → a8,reduceAdd → a9,reduceLT → aA,reduceMul → aB,reduceSub → aC,reduceBEq → aD
namespace Go.Proofs.YtmlnpimlfbfkbaaGreat
open Go Go.AL
set_option linter.unusedSimpArgs false
set_option linter.unusedVariables false
theorem toIntSO (l : List Int) (Hs : smL (fun _=>True) l) : AC Tryz.prog 101 [.d (.sl 1 (l.map encI) .no)] [] (OwnR (LI l)):=by
  refine bD TT Tryz.call101 Tryz.func101 rfl (by simp [Tryz.ntmps101]) (by kernel_rfl) fun E hk=>?_
  have hs1 : l.length ≤ 1048576:=Hs.1
  have hlim : l.length * 8 ≤ 281474976710656:=by omega
  (repeat' (first|with_reducible (first|refine bB ?_|refine b6 ?_|refine b8 ?_|refine b9 ?_|refine bC ?_|refine aS ?_|refine b5 ?_|refine aY ?_|refine aQ ?_|refine aZ ?_|refine aT ?_|refine b4 rfl ?_|(refine hK _ ?_;clear K hK)|refine aW rfl ?_|refine aX rfl ?_|intro hfact)|(with_reducible refine And.intro ?_ ?_;focus (first|assumption|omega|(simp;done)|((repeat' apply And.intro)<;>first|assumption|omega)|((repeat' split)<;>omega)))|((first|with_reducible (first|((refine bA TT ?_);intro K hK)|((refine aV TT ?_);intro K hK)|((refine b7 TT [] MX (by kernel_rfl) (by kernel_rfl) ?_);intro K hK)|((refine aU TT [] MX (by kernel_rfl) (by kernel_rfl) ?_);intro K hK))|(with_reducible (first|refine aR TT E (fun hb=>?_) (fun hb=>?_)|refine aP TT E (fun hb=>?_) (fun hb=>?_)|refine aO TT _ _ (fun hb=>?_) (fun hb=>?_)|refine aN TT _ _ (fun hb=>?_) (fun hb=>?_))<;>try simp only [hb]))<;>simp only [go_sem,↓reduceIte,aF,aG,a7,a9,aB,aC,aA,aD,a8,reduceCtorEq,aE,aH,aI,aJ,aK,hlim])))
  refine bQ (l) (List.length (l)) 0 [] [0,3] (fun k st=>[(4,I k)]) (fun obs k st=>[.cells (fillA [.int .i64 0] ((l.take k).map encI) l.length)]) (fun k st=>[]) (fun k rest st nt=>E.nt0 ≤ nt) (()) (by first|rfl|(simp;done)|(simp;omega)) (by first|rfl|(simp only [go_sem,↓reduceIte,a7,a9,aA,a8,reduceCtorEq];done)|(simp only [go_sem,↓reduceIte,a7,a9,aA,a8,reduceCtorEq];simp;done)) (by simp only [go_sem,↓reduceIte,a7,a9,aA,a8,reduceCtorEq];rfl) (by first|rfl|(simp only [go_sem,↓reduceIte,a7,a9,aA,a8,reduceCtorEq];rfl)) (Nat.le_refl _) (by unfold ASubW;simp only [go_sem,↓reduceIte,a7,a9,aA,a8,reduceCtorEq,hk];try simp [f0]) ?_ ?_
  · rintro st nt hmax hn
    refine hU 3 [0,4] [] rfl rfl rfl (iR rfl encI [.int .i64 0] 1 rfl (fun _=>rfl)) rfl (by simp [hk]) rfl ?_
    rw [iP rfl encI [.int .i64 0] 1 rfl (fun _=>rfl)]
    (repeat' (first|with_reducible (first|refine bB ?_|refine b6 ?_|refine b8 ?_|refine b9 ?_|refine bC ?_|refine aS ?_|refine b5 ?_|refine aY ?_|refine aQ ?_|refine aZ ?_|refine aT ?_|refine b4 rfl ?_|(refine hK _ ?_;clear K hK)|refine aW rfl ?_|refine aX rfl ?_|intro hfact)|(with_reducible refine And.intro ?_ ?_;focus (first|assumption|omega|(simp;done)|((repeat' apply And.intro)<;>first|assumption|omega)|((repeat' split)<;>omega)))|((first|with_reducible (first|((refine bA TT ?_);intro K hK)|((refine aV TT ?_);intro K hK)|((refine b7 TT [] MX (by kernel_rfl) (by kernel_rfl) ?_);intro K hK)|((refine aU TT [] MX (by kernel_rfl) (by kernel_rfl) ?_);intro K hK))|(with_reducible (first|refine aR TT E (fun hb=>?_) (fun hb=>?_)|refine aP TT E (fun hb=>?_) (fun hb=>?_)|refine aO TT _ _ (fun hb=>?_) (fun hb=>?_)|refine aN TT _ _ (fun hb=>?_) (fun hb=>?_))<;>try simp only [hb]))<;>simp only [go_sem,↓reduceIte,aF,aG,a7,a9,aB,aC,aA,aD,a8,reduceCtorEq,aE,aH,aI,aJ,aK])))
    refine eS TT (m:=0) (toks:=[nt]) (by simp only [go_sem,↓reduceIte,a7,a9,aA,a8,reduceCtorEq,Tryz.results101];rfl) (by simp) (fun t h=>h) rfl ⟨rfl,?_,?_,?_,?_⟩
    · exact jD (sz:=1) (by simp) (ownLL_map (fun _=>rfl) l)
    · intro x hx;simp at hx;subst hx;exact ⟨hn,by dsimp only;omega⟩
    · simp [resV,AV.erR,AV.er,DV.er,fO]
    · dsimp only;omega
  · rintro k x rest st nt hA hn
    have h1:=hA.fillL encI [.int .i64 0] 1 rfl (fun _=>rfl)
    have h2:=hA.fillS encI [.int .i64 0] 1 rfl (fun _=>rfl)
    simp only [encI] at h2
    (repeat' (first|with_reducible (first|refine bB ?_|refine b6 ?_|refine b8 ?_|refine b9 ?_|refine bC ?_|refine aS ?_|refine b5 ?_|refine aY ?_|refine aQ ?_|refine aZ ?_|refine aT ?_|refine b4 rfl ?_|(refine hK _ ?_;clear K hK)|refine aW rfl ?_|refine aX rfl ?_|intro hfact)|(with_reducible refine And.intro ?_ ?_;focus (first|assumption|omega|(simp;done)|((repeat' apply And.intro)<;>first|assumption|omega)|((repeat' split)<;>omega)))|((first|with_reducible (first|((refine bA TT ?_);intro K hK)|((refine aV TT ?_);intro K hK)|((refine b7 TT [] MX (by kernel_rfl) (by kernel_rfl) ?_);intro K hK)|((refine aU TT [] MX (by kernel_rfl) (by kernel_rfl) ?_);intro K hK))|(with_reducible (first|refine aR TT E (fun hb=>?_) (fun hb=>?_)|refine aP TT E (fun hb=>?_) (fun hb=>?_)|refine aO TT _ _ (fun hb=>?_) (fun hb=>?_)|refine aN TT _ _ (fun hb=>?_) (fun hb=>?_))<;>try simp only [hb]))<;>simp only [go_sem,↓reduceIte,aF,aG,a7,a9,aB,aC,aA,aD,a8,reduceCtorEq,aE,aH,aI,aJ,aK,hA.d,hA.w,hA.lt,hA.g,encI,h1,h2])))
    refine ⟨(),by first|exact hn|(refine Nat.le_trans hn ?_;dsimp only;omega),(by unfold ASubW;simp only [go_sem,↓reduceIte,a7,a9,aA,a8,reduceCtorEq,hk,h2];try simp)⟩
theorem toFieldSO (l : List Field) (Hs : smL hG l) : AC Tryz.prog 35 [.d (.sl 3 (l.map encF) .no)] [] (OwnR (LF l)):=by
  refine bD TT Tryz.call35 Tryz.func35 rfl (by simp [Tryz.ntmps35]) (by kernel_rfl) fun E hk=>?_
  have hs1 : l.length ≤ 1048576:=Hs.1
  have hlim : l.length * 32 ≤ 281474976710656:=by omega
  (repeat' (first|with_reducible (first|refine bB ?_|refine b6 ?_|refine b8 ?_|refine b9 ?_|refine bC ?_|refine aS ?_|refine b5 ?_|refine aY ?_|refine aQ ?_|refine aZ ?_|refine aT ?_|refine b4 rfl ?_|(refine hK _ ?_;clear K hK)|refine aW rfl ?_|refine aX rfl ?_|intro hfact)|(with_reducible refine And.intro ?_ ?_;focus (first|assumption|omega|(simp;done)|((repeat' apply And.intro)<;>first|assumption|omega)|((repeat' split)<;>omega)))|((first|with_reducible (first|((refine bA TT ?_);intro K hK)|((refine aV TT ?_);intro K hK)|((refine b7 TT [] MX (by kernel_rfl) (by kernel_rfl) ?_);intro K hK)|((refine aU TT [] MX (by kernel_rfl) (by kernel_rfl) ?_);intro K hK))|(with_reducible (first|refine aR TT E (fun hb=>?_) (fun hb=>?_)|refine aP TT E (fun hb=>?_) (fun hb=>?_)|refine aO TT _ _ (fun hb=>?_) (fun hb=>?_)|refine aN TT _ _ (fun hb=>?_) (fun hb=>?_))<;>try simp only [hb])|((first|refine aM TT E (dY _ _ _) rfl rfl ?_|refine aL TT _ _ (dY _ _ _) rfl rfl ?_);intro m hm;try dsimp only at hm))<;>simp only [go_sem,↓reduceIte,aF,aG,a7,a9,aB,aC,aA,aD,a8,reduceCtorEq,aE,aH,aI,aJ,aK,hlim])))
  refine bQ (l) (List.length (l)) 0 [] [0,3] (fun k st=>[(4,I k)]) (fun obs k st=>[.cells (fillA [.str [],.int .i64 0,.int .i64 0] ((l.take k).map encF) l.length)]) (fun k st=>[]) (fun k rest st nt=>E.nt0 ≤ nt) (()) (by first|rfl|(simp;done)|(simp;omega)) (by first|rfl|(simp only [go_sem,↓reduceIte,a7,a9,aA,a8,reduceCtorEq];done)|(simp only [go_sem,↓reduceIte,a7,a9,aA,a8,reduceCtorEq];simp;done)) (by simp only [go_sem,↓reduceIte,a7,a9,aA,a8,reduceCtorEq];rfl) (by first|rfl|(simp only [go_sem,↓reduceIte,a7,a9,aA,a8,reduceCtorEq];rfl)) (Nat.le_refl _) (by unfold ASubW;simp only [go_sem,↓reduceIte,a7,a9,aA,a8,reduceCtorEq,hk];try simp [f0]) ?_ ?_
  · rintro st nt hmax hn
    refine hU 3 [0,4] [] rfl rfl rfl (iR rfl encF [.str [],.int .i64 0,.int .i64 0] 3 rfl (fun _=>rfl)) rfl (by simp [hk]) rfl ?_
    rw [iP rfl encF [.str [],.int .i64 0,.int .i64 0] 3 rfl (fun _=>rfl)]
    (repeat' (first|with_reducible (first|refine bB ?_|refine b6 ?_|refine b8 ?_|refine b9 ?_|refine bC ?_|refine aS ?_|refine b5 ?_|refine aY ?_|refine aQ ?_|refine aZ ?_|refine aT ?_|refine b4 rfl ?_|(refine hK _ ?_;clear K hK)|refine aW rfl ?_|refine aX rfl ?_|intro hfact)|(with_reducible refine And.intro ?_ ?_;focus (first|assumption|omega|(simp;done)|((repeat' apply And.intro)<;>first|assumption|omega)|((repeat' split)<;>omega)))|((first|with_reducible (first|((refine bA TT ?_);intro K hK)|((refine aV TT ?_);intro K hK)|((refine b7 TT [] MX (by kernel_rfl) (by kernel_rfl) ?_);intro K hK)|((refine aU TT [] MX (by kernel_rfl) (by kernel_rfl) ?_);intro K hK))|(with_reducible (first|refine aR TT E (fun hb=>?_) (fun hb=>?_)|refine aP TT E (fun hb=>?_) (fun hb=>?_)|refine aO TT _ _ (fun hb=>?_) (fun hb=>?_)|refine aN TT _ _ (fun hb=>?_) (fun hb=>?_))<;>try simp only [hb])|((first|refine aM TT E (dY _ _ _) rfl rfl ?_|refine aL TT _ _ (dY _ _ _) rfl rfl ?_);intro m hm;try dsimp only at hm))<;>simp only [go_sem,↓reduceIte,aF,aG,a7,a9,aB,aC,aA,aD,a8,reduceCtorEq,aE,aH,aI,aJ,aK])))
    refine eS TT (m:=0) (toks:=[nt]) (by simp only [go_sem,↓reduceIte,a7,a9,aA,a8,reduceCtorEq,Tryz.results35];rfl) (by simp) (fun t h=>h) rfl ⟨rfl,?_,?_,?_,?_⟩
    · exact jD (sz:=3) (by simp) (ownLL_map (fun _=>rfl) l)
    · intro x hx;simp at hx;subst hx;exact ⟨hn,by dsimp only;omega⟩
    · simp [resV,AV.erR,AV.er,DV.er,fB]
    · dsimp only;omega
  · rintro k x rest st nt hA hn
    have h1:=hA.fillL encF [.str [],.int .i64 0,.int .i64 0] 3 rfl (fun _=>rfl)
    have h2:=hA.fillS encF [.str [],.int .i64 0,.int .i64 0] 3 rfl (fun _=>rfl)
    simp only [encF] at h2
    (repeat' (first|with_reducible (first|refine bB ?_|refine b6 ?_|refine b8 ?_|refine b9 ?_|refine bC ?_|refine aS ?_|refine b5 ?_|refine aY ?_|refine aQ ?_|refine aZ ?_|refine aT ?_|refine b4 rfl ?_|(refine hK _ ?_;clear K hK)|refine aW rfl ?_|refine aX rfl ?_|intro hfact)|(with_reducible refine And.intro ?_ ?_;focus (first|assumption|omega|(simp;done)|((repeat' apply And.intro)<;>first|assumption|omega)|((repeat' split)<;>omega)))|((first|with_reducible (first|((refine bA TT ?_);intro K hK)|((refine aV TT ?_);intro K hK)|((refine b7 TT [] MX (by kernel_rfl) (by kernel_rfl) ?_);intro K hK)|((refine aU TT [] MX (by kernel_rfl) (by kernel_rfl) ?_);intro K hK))|(with_reducible (first|refine aR TT E (fun hb=>?_) (fun hb=>?_)|refine aP TT E (fun hb=>?_) (fun hb=>?_)|refine aO TT _ _ (fun hb=>?_) (fun hb=>?_)|refine aN TT _ _ (fun hb=>?_) (fun hb=>?_))<;>try simp only [hb])|((first|refine aM TT E (dY _ _ _) rfl rfl ?_|refine aL TT _ _ (dY _ _ _) rfl rfl ?_);intro m hm;try dsimp only at hm))<;>simp only [go_sem,↓reduceIte,aF,aG,a7,a9,aB,aC,aA,aD,a8,reduceCtorEq,aE,aH,aI,aJ,aK,hA.d,hA.w,hA.lt,hA.g,encF,h1,h2])))
    refine ⟨(),by first|exact hn|(refine Nat.le_trans hn ?_;dsimp only;omega),(by unfold ASubW;simp only [go_sem,↓reduceIte,a7,a9,aA,a8,reduceCtorEq,hk,h2];try simp)⟩
theorem toThingO (groups' : List Int) (fields' : List Field) (H0 : i9 (Thing.mk groups' fields')) : AC Tryz.prog 62 [.agg [.sl 1 (groups'.map encI) .no,.sl 3 (fields'.map encF) .no]] [] (OwnR (.agg [.sl 1 (groups'.map encI) .no,.sl 3 (fields'.map encF) .no])):=by
  refine bD TT Tryz.call62 Tryz.func62 rfl (by simp [Tryz.ntmps62]) (by kernel_rfl) fun E hk=>?_
  (repeat' (first|with_reducible (first|refine bB ?_|refine b6 ?_|refine b8 ?_|refine b9 ?_|refine bC ?_|refine aS ?_|refine b5 ?_|refine aY ?_|refine aQ ?_|refine aZ ?_|refine aT ?_|refine b4 rfl ?_|(refine hK _ ?_;clear K hK)|refine aW rfl ?_|refine aX rfl ?_|intro hfact)|(with_reducible refine And.intro ?_ ?_;focus (first|assumption|omega|(simp;done)|((repeat' apply And.intro)<;>first|assumption|omega)|((repeat' split)<;>omega)))|((first|with_reducible (first|((refine bA TT ?_);intro K hK)|((refine aV TT ?_);intro K hK)|((refine b7 TT [] MX (by kernel_rfl) (by kernel_rfl) ?_);intro K hK)|((refine aU TT [] MX (by kernel_rfl) (by kernel_rfl) ?_);intro K hK))|(with_reducible (first|refine aR TT E (fun hb=>?_) (fun hb=>?_)|refine aP TT E (fun hb=>?_) (fun hb=>?_)|refine aO TT _ _ (fun hb=>?_) (fun hb=>?_)|refine aN TT _ _ (fun hb=>?_) (fun hb=>?_))<;>try simp only [hb]))<;>simp only [go_sem,↓reduceIte,aF,aG,a7,a9,aB,aC,aA,aD,a8,reduceCtorEq,aE,aH,aI,aJ,aK])))
  refine cW TT E [] (toIntSO groups' H0.1) rfl rfl rfl (by decide) ?_
  rintro r os t0 m0 ⟨rfl,hO,hT0,hE,hm0⟩
  obtain ⟨D0,rfl,hD0,hO0⟩:=own_d hO hE
  dsimp only at hT0 hm0
  simp only [go_sem,↓reduceIte,a7,a9,aA,a8,reduceCtorEq]
  (repeat' (first|with_reducible (first|refine bB ?_|refine b6 ?_|refine b8 ?_|refine b9 ?_|refine bC ?_|refine aS ?_|refine b5 ?_|refine aY ?_|refine aQ ?_|refine aZ ?_|refine aT ?_|refine b4 rfl ?_|(refine hK _ ?_;clear K hK)|refine aW rfl ?_|refine aX rfl ?_|intro hfact)|(with_reducible refine And.intro ?_ ?_;focus (first|assumption|omega|(simp;done)|((repeat' apply And.intro)<;>first|assumption|omega)|((repeat' split)<;>omega)))|((first|with_reducible (first|((refine bA TT ?_);intro K hK)|((refine aV TT ?_);intro K hK)|((refine b7 TT [] MX (by kernel_rfl) (by kernel_rfl) ?_);intro K hK)|((refine aU TT [] MX (by kernel_rfl) (by kernel_rfl) ?_);intro K hK))|(with_reducible (first|refine aR TT E (fun hb=>?_) (fun hb=>?_)|refine aP TT E (fun hb=>?_) (fun hb=>?_)|refine aO TT _ _ (fun hb=>?_) (fun hb=>?_)|refine aN TT _ _ (fun hb=>?_) (fun hb=>?_))<;>try simp only [hb]))<;>simp only [go_sem,↓reduceIte,aF,aG,a7,a9,aB,aC,aA,aD,a8,reduceCtorEq,aE,aH,aI,aJ,aK,hD0])))
  refine cW TT E [] (toFieldSO fields' H0.2) rfl rfl rfl (by decide) ?_
  rintro r os t1 m1 ⟨rfl,hO,hT1,hE,hm1⟩
  obtain ⟨D1,rfl,hD1,hO1⟩:=own_d hO hE
  dsimp only at hT1 hm1
  simp only [go_sem,↓reduceIte,a7,a9,aA,a8,reduceCtorEq]
  (repeat' (first|with_reducible (first|refine bB ?_|refine b6 ?_|refine b8 ?_|refine b9 ?_|refine bC ?_|refine aS ?_|refine b5 ?_|refine aY ?_|refine aQ ?_|refine aZ ?_|refine aT ?_|refine b4 rfl ?_|(refine hK _ ?_;clear K hK)|refine aW rfl ?_|refine aX rfl ?_|intro hfact)|(with_reducible refine And.intro ?_ ?_;focus (first|assumption|omega|(simp;done)|((repeat' apply And.intro)<;>first|assumption|omega)|((repeat' split)<;>omega)))|((first|with_reducible (first|((refine bA TT ?_);intro K hK)|((refine aV TT ?_);intro K hK)|((refine b7 TT [] MX (by kernel_rfl) (by kernel_rfl) ?_);intro K hK)|((refine aU TT [] MX (by kernel_rfl) (by kernel_rfl) ?_);intro K hK))|(with_reducible (first|refine aR TT E (fun hb=>?_) (fun hb=>?_)|refine aP TT E (fun hb=>?_) (fun hb=>?_)|refine aO TT _ _ (fun hb=>?_) (fun hb=>?_)|refine aN TT _ _ (fun hb=>?_) (fun hb=>?_))<;>try simp only [hb]))<;>simp only [go_sem,↓reduceIte,aF,aG,a7,a9,aB,aC,aA,aD,a8,reduceCtorEq,aE,aH,aI,aJ,aK,hD0,hD1])))
  refine eS TT (m:=0) (toks:=t0 ++ t1) (by simp only [go_sem,↓reduceIte,a7,a9,aA,a8,reduceCtorEq,Tryz.results62];rfl) (by simp) (by intro t ht;simp at ht ⊢;rcases ht with h|h<;>simp [h]) rfl ⟨rfl,?_,?_,?_,?_⟩
  · exact ownL_cons hO0 (hQ hO1) (eK (fun x hx=>(hT0 x hx).2) (fun x hx=>(hT1 x hx).1))
  · intro x hx;rcases List.mem_append.1 hx with h|h;(have:=hT0 x h;exact ⟨this.1,by dsimp only;omega⟩);(have:=hT1 x h;exact ⟨by omega,this.2⟩)
  · simp [resV,AV.erR,AV.er,DV.er,erL,hD0,hD1]
  · dsimp only;omega
theorem toThingSO (l : List Thing) (Hs : smL i9 l) : AC Tryz.prog 15 [LT l] [] (OwnR (LT l)):=by
  refine bD TT Tryz.call15 Tryz.func15 rfl (by simp [Tryz.ntmps15]) (by kernel_rfl) fun E hk=>?_
  have hs1 : l.length ≤ 1048576:=Hs.1
  have hlim : l.length * 48 ≤ 281474976710656:=by omega
  (repeat' (first|with_reducible (first|refine bB ?_|refine b6 ?_|refine b8 ?_|refine b9 ?_|refine bC ?_|refine aS ?_|refine b5 ?_|refine aY ?_|refine aQ ?_|refine aZ ?_|refine aT ?_|refine b4 rfl ?_|(refine hK _ ?_;clear K hK)|refine aW rfl ?_|refine aX rfl ?_|intro hfact)|(with_reducible refine And.intro ?_ ?_;focus (first|assumption|omega|(simp;done)|((repeat' apply And.intro)<;>first|assumption|omega)|((repeat' split)<;>omega)))|((first|with_reducible (first|((refine bA TT ?_);intro K hK)|((refine aV TT ?_);intro K hK)|((refine b7 TT [] MX (by kernel_rfl) (by kernel_rfl) ?_);intro K hK)|((refine aU TT [] MX (by kernel_rfl) (by kernel_rfl) ?_);intro K hK))|(with_reducible (first|refine aR TT E (fun hb=>?_) (fun hb=>?_)|refine aP TT E (fun hb=>?_) (fun hb=>?_)|refine aO TT _ _ (fun hb=>?_) (fun hb=>?_)|refine aN TT _ _ (fun hb=>?_) (fun hb=>?_))<;>try simp only [hb]))<;>simp only [go_sem,↓reduceIte,aF,aG,a7,a9,aB,aC,aA,aD,a8,reduceCtorEq,aE,aH,aI,aJ,aK,hlim])))
  refine bQ (l) (List.length (l)) 0 [] [0,3] (fun k st=>[(4,I k)]) (fun obs k st=>[.cells (fillA [.sl 1 [] .full,.sl 3 [] .full] st.1 l.length)]) (fun k st=>st.2) (fun k rest st nt=>(erLL st.1 = (l.take k).map encT ∧ ownLL st.1 st.2 ∧ (∀ t ∈ st.2,E.nt0 ≤ t ∧ t < nt)) ∧ (∀ y ∈ st.1,y.length = 2) ∧ st.1.length = k ∧ E.nt0 ≤ nt) ((([] : List (List DV)),([] : List Nat))) (by first|rfl|(simp;done)|(simp;omega)) (by first|rfl|(simp only [go_sem,↓reduceIte,a7,a9,aA,a8,reduceCtorEq];done)|(simp only [go_sem,↓reduceIte,a7,a9,aA,a8,reduceCtorEq];simp;done)) (by simp only [go_sem,↓reduceIte,a7,a9,aA,a8,reduceCtorEq];rfl) (by first|rfl|(simp only [go_sem,↓reduceIte,a7,a9,aA,a8,reduceCtorEq];rfl)) (⟨⟨by simp [erLL],by simp [ownLL],by simp⟩,by simp,rfl,Nat.le_refl _⟩) (by unfold ASubW;simp only [go_sem,↓reduceIte,a7,a9,aA,a8,reduceCtorEq,hk];try simp [f0]) ?_ ?_
  · rintro ⟨xs,ts⟩ nt hmax ⟨⟨h1,h2,h3⟩,h4,h5,h6⟩
    dsimp only at h1 h2 h3 h4 h5
    rw [List.take_length] at h1
    refine hU 3 [0,4] [] rfl rfl rfl (gE (z:=[.sl 1 [] .full,.sl 3 [] .full]) (n:=l.length) h4 (Nat.le_of_eq h5)) rfl (by simp [hk]) rfl ?_
    rw [show chunk 2 l.length (fillA [.sl 1 [] .full,.sl 3 [] .full] xs l.length) = xs from jG (z:=[.sl 1 [] .full,.sl 3 [] .full]) h4 h5]
    (repeat' (first|with_reducible (first|refine bB ?_|refine b6 ?_|refine b8 ?_|refine b9 ?_|refine bC ?_|refine aS ?_|refine b5 ?_|refine aY ?_|refine aQ ?_|refine aZ ?_|refine aT ?_|refine b4 rfl ?_|(refine hK _ ?_;clear K hK)|refine aW rfl ?_|refine aX rfl ?_|intro hfact)|(with_reducible refine And.intro ?_ ?_;focus (first|assumption|omega|(simp;done)|((repeat' apply And.intro)<;>first|assumption|omega)|((repeat' split)<;>omega)))|((first|with_reducible (first|((refine bA TT ?_);intro K hK)|((refine aV TT ?_);intro K hK)|((refine b7 TT [] MX (by kernel_rfl) (by kernel_rfl) ?_);intro K hK)|((refine aU TT [] MX (by kernel_rfl) (by kernel_rfl) ?_);intro K hK))|(with_reducible (first|refine aR TT E (fun hb=>?_) (fun hb=>?_)|refine aP TT E (fun hb=>?_) (fun hb=>?_)|refine aO TT _ _ (fun hb=>?_) (fun hb=>?_)|refine aN TT _ _ (fun hb=>?_) (fun hb=>?_))<;>try simp only [hb]))<;>simp only [go_sem,↓reduceIte,aF,aG,a7,a9,aB,aC,aA,aD,a8,reduceCtorEq,aE,aH,aI,aJ,aK])))
    refine eS TT (m:=0) (toks:=nt :: ts) (by simp only [go_sem,↓reduceIte,a7,a9,aA,a8,reduceCtorEq,Tryz.results15];rfl) (by simp) (fun t h=>h) rfl ⟨rfl,?_,?_,?_,?_⟩
    · exact jD (sz:=2) (fun hin=>by have:=(h3 _ hin).2;omega) h2
    · intro x hx;simp at hx;rcases hx with rfl|hx
      · exact ⟨h6,by dsimp only;omega⟩
      · have:=h3 x hx;exact ⟨this.1,by dsimp only;omega⟩
    · simp [resV,AV.erR,AV.er,DV.er,h1]
    · dsimp only;omega
  · rintro k x rest ⟨xs,ts⟩ nt hA ⟨⟨h1,h2,h3⟩,h4,h5,h6⟩
    dsimp only at h1 h2 h3 h4 h5
    have hsx:=Hs.2 x hA.mem
    (repeat' (first|with_reducible (first|refine bB ?_|refine b6 ?_|refine b8 ?_|refine b9 ?_|refine bC ?_|refine aS ?_|refine b5 ?_|refine aY ?_|refine aQ ?_|refine aZ ?_|refine aT ?_|refine b4 rfl ?_|(refine hK _ ?_;clear K hK)|refine aW rfl ?_|refine aX rfl ?_|intro hfact)|(with_reducible refine And.intro ?_ ?_;focus (first|assumption|omega|(simp;done)|((repeat' apply And.intro)<;>first|assumption|omega)|((repeat' split)<;>omega)))|((first|with_reducible (first|((refine bA TT ?_);intro K hK)|((refine aV TT ?_);intro K hK)|((refine b7 TT [] MX (by kernel_rfl) (by kernel_rfl) ?_);intro K hK)|((refine aU TT [] MX (by kernel_rfl) (by kernel_rfl) ?_);intro K hK))|(with_reducible (first|refine aR TT E (fun hb=>?_) (fun hb=>?_)|refine aP TT E (fun hb=>?_) (fun hb=>?_)|refine aO TT _ _ (fun hb=>?_) (fun hb=>?_)|refine aN TT _ _ (fun hb=>?_) (fun hb=>?_))<;>try simp only [hb]))<;>simp only [go_sem,↓reduceIte,aF,aG,a7,a9,aB,aC,aA,aD,a8,reduceCtorEq,aE,aH,aI,aJ,aK,hA.d,hA.w,hA.lt,hA.g,encT])))
    refine cW TT E [] (toThingO x.groups x.fields hsx) rfl rfl rfl (by decide) ?_
    rintro r os t1 m1 ⟨rfl,hO,hT1,hE,hm1⟩
    obtain ⟨cs,rfl,hcs,hO1,hlen⟩:=j1 hO hE
    dsimp only at hT1 hm1
    have hl : cs.length = 2:=hlen
    have hkl:=hA.lt
    have g1 : k * 2 + 2 ≤ (fillA [.sl 1 [] .full,.sl 3 [] .full] xs l.length).length:=by rw [gE (z:=[.sl 1 [] .full,.sl 3 [] .full]) h4 (by omega)];simp only [List.length_cons,List.length_nil];omega
    have g2 : layL (fillA [.sl 1 [] .full,.sl 3 [] .full] xs l.length) (k * 2) cs = fillA [.sl 1 [] .full,.sl 3 [] .full] (xs ++ [cs]) l.length:=by
      have:=fillA_set (z:=[.sl 1 [] .full,.sl 3 [] .full]) (y:=cs) (n:=l.length) h4 hl (by omega)
      rw [h5] at this
      exact this
    simp only [go_sem,↓reduceIte,a7,a9,aA,a8,reduceCtorEq]
    (repeat' (first|with_reducible (first|refine bB ?_|refine b6 ?_|refine b8 ?_|refine b9 ?_|refine bC ?_|refine aS ?_|refine b5 ?_|refine aY ?_|refine aQ ?_|refine aZ ?_|refine aT ?_|refine b4 rfl ?_|(refine hK _ ?_;clear K hK)|refine aW rfl ?_|refine aX rfl ?_|intro hfact)|(with_reducible refine And.intro ?_ ?_;focus (first|assumption|omega|(simp;done)|((repeat' apply And.intro)<;>first|assumption|omega)|((repeat' split)<;>omega)))|((first|with_reducible (first|((refine bA TT ?_);intro K hK)|((refine aV TT ?_);intro K hK)|((refine b7 TT [] MX (by kernel_rfl) (by kernel_rfl) ?_);intro K hK)|((refine aU TT [] MX (by kernel_rfl) (by kernel_rfl) ?_);intro K hK))|(with_reducible (first|refine aR TT E (fun hb=>?_) (fun hb=>?_)|refine aP TT E (fun hb=>?_) (fun hb=>?_)|refine aO TT _ _ (fun hb=>?_) (fun hb=>?_)|refine aN TT _ _ (fun hb=>?_) (fun hb=>?_))<;>try simp only [hb]))<;>simp only [go_sem,↓reduceIte,aF,aG,a7,a9,aB,aC,aA,aD,a8,reduceCtorEq,aE,aH,aI,aJ,aK,hl,g1,g2,hA.lt,hA.w])))
    refine ⟨(xs ++ [cs],ts ++ t1),⟨⟨?_,?_,?_⟩,?_,?_,?_⟩,?_⟩
    · rw [fZ,hA.snoc,List.map_append,h1];simp [erLL,hcs,encT]
    · exact iN h2 hO1 (eK (fun t ht=>(h3 t ht).2) (fun t ht=>(hT1 t ht).1))
    · intro t ht;rcases List.mem_append.1 ht with h|h
      · have:=h3 t h;exact ⟨this.1,by dsimp only;omega⟩
      · have:=hT1 t h;exact ⟨by omega,this.2⟩
    · intro y hy;rcases List.mem_append.1 hy with h|h
      · exact h4 y h
      · simp at h;subst h;exact hl
    · simp [h5]
    · dsimp only;omega
    · unfold ASubW;simp only [go_sem,↓reduceIte,a7,a9,aA,a8,reduceCtorEq,hk,g2];(try simp);(try (intro t ht;rcases ht with ht|ht<;>simp [ht]))
def toElO (e : Expr) : Prop:=smExpr e → AC Tryz.prog 102 [.agg [.int .i64 e.kind,.int .i64 e.number,.str e.name,.sl 4 (e.parts.map encE) .no]] [] (OwnR (.agg [.int .i64 e.kind,.int .i64 e.number,.str e.name,.sl 4 (e.parts.map encE) .no]))
theorem toExprSO_of (l : List Expr) (hel : ∀ e ∈ l,toElO e) (Hs : smL smExpr l) : AC Tryz.prog 127 [LE l] [] (OwnR (LE l)):=by
  refine bD TT Tryz.call127 Tryz.func127 rfl (by simp [Tryz.ntmps127]) (by kernel_rfl) fun E hk=>?_
  have hs1 : l.length ≤ 1048576:=Hs.1
  have hlim : l.length * 56 ≤ 281474976710656:=by omega
  (repeat' (first|with_reducible (first|refine bB ?_|refine b6 ?_|refine b8 ?_|refine b9 ?_|refine bC ?_|refine aS ?_|refine b5 ?_|refine aY ?_|refine aQ ?_|refine aZ ?_|refine aT ?_|refine b4 rfl ?_|(refine hK _ ?_;clear K hK)|refine aW rfl ?_|refine aX rfl ?_|intro hfact)|(with_reducible refine And.intro ?_ ?_;focus (first|assumption|omega|(simp;done)|((repeat' apply And.intro)<;>first|assumption|omega)|((repeat' split)<;>omega)))|((first|with_reducible (first|((refine bA TT ?_);intro K hK)|((refine aV TT ?_);intro K hK)|((refine b7 TT [] MX (by kernel_rfl) (by kernel_rfl) ?_);intro K hK)|((refine aU TT [] MX (by kernel_rfl) (by kernel_rfl) ?_);intro K hK))|(with_reducible (first|refine aR TT E (fun hb=>?_) (fun hb=>?_)|refine aP TT E (fun hb=>?_) (fun hb=>?_)|refine aO TT _ _ (fun hb=>?_) (fun hb=>?_)|refine aN TT _ _ (fun hb=>?_) (fun hb=>?_))<;>try simp only [hb]))<;>simp only [go_sem,↓reduceIte,aF,aG,a7,a9,aB,aC,aA,aD,a8,reduceCtorEq,aE,aH,aI,aJ,aK,hlim])))
  refine bQ (l) (List.length (l)) 0 [] [0,3] (fun k st=>[(4,I k)]) (fun obs k st=>[.cells (fillA [.int .i64 0,.int .i64 0,.str [],.sl 4 [] .full] st.1 l.length)]) (fun k st=>st.2) (fun k rest st nt=>(erLL st.1 = (l.take k).map encE ∧ ownLL st.1 st.2 ∧ (∀ t ∈ st.2,E.nt0 ≤ t ∧ t < nt)) ∧ (∀ y ∈ st.1,y.length = 4) ∧ st.1.length = k ∧ E.nt0 ≤ nt) ((([] : List (List DV)),([] : List Nat))) (by first|rfl|(simp;done)|(simp;omega)) (by first|rfl|(simp only [go_sem,↓reduceIte,a7,a9,aA,a8,reduceCtorEq];done)|(simp only [go_sem,↓reduceIte,a7,a9,aA,a8,reduceCtorEq];simp;done)) (by simp only [go_sem,↓reduceIte,a7,a9,aA,a8,reduceCtorEq];rfl) (by first|rfl|(simp only [go_sem,↓reduceIte,a7,a9,aA,a8,reduceCtorEq];rfl)) (⟨⟨by simp [erLL],by simp [ownLL],by simp⟩,by simp,rfl,Nat.le_refl _⟩) (by unfold ASubW;simp only [go_sem,↓reduceIte,a7,a9,aA,a8,reduceCtorEq,hk];try simp [f0]) ?_ ?_
  · rintro ⟨xs,ts⟩ nt hmax ⟨⟨h1,h2,h3⟩,h4,h5,h6⟩
    dsimp only at h1 h2 h3 h4 h5
    rw [List.take_length] at h1
    refine hU 3 [0,4] [] rfl rfl rfl (gE (z:=[.int .i64 0,.int .i64 0,.str [],.sl 4 [] .full]) (n:=l.length) h4 (Nat.le_of_eq h5)) rfl (by simp [hk]) rfl ?_
    rw [show chunk 4 l.length (fillA [.int .i64 0,.int .i64 0,.str [],.sl 4 [] .full] xs l.length) = xs from jG (z:=[.int .i64 0,.int .i64 0,.str [],.sl 4 [] .full]) h4 h5]
    (repeat' (first|with_reducible (first|refine bB ?_|refine b6 ?_|refine b8 ?_|refine b9 ?_|refine bC ?_|refine aS ?_|refine b5 ?_|refine aY ?_|refine aQ ?_|refine aZ ?_|refine aT ?_|refine b4 rfl ?_|(refine hK _ ?_;clear K hK)|refine aW rfl ?_|refine aX rfl ?_|intro hfact)|(with_reducible refine And.intro ?_ ?_;focus (first|assumption|omega|(simp;done)|((repeat' apply And.intro)<;>first|assumption|omega)|((repeat' split)<;>omega)))|((first|with_reducible (first|((refine bA TT ?_);intro K hK)|((refine aV TT ?_);intro K hK)|((refine b7 TT [] MX (by kernel_rfl) (by kernel_rfl) ?_);intro K hK)|((refine aU TT [] MX (by kernel_rfl) (by kernel_rfl) ?_);intro K hK))|(with_reducible (first|refine aR TT E (fun hb=>?_) (fun hb=>?_)|refine aP TT E (fun hb=>?_) (fun hb=>?_)|refine aO TT _ _ (fun hb=>?_) (fun hb=>?_)|refine aN TT _ _ (fun hb=>?_) (fun hb=>?_))<;>try simp only [hb]))<;>simp only [go_sem,↓reduceIte,aF,aG,a7,a9,aB,aC,aA,aD,a8,reduceCtorEq,aE,aH,aI,aJ,aK])))
    refine eS TT (m:=0) (toks:=nt :: ts) (by simp only [go_sem,↓reduceIte,a7,a9,aA,a8,reduceCtorEq,Tryz.results127];rfl) (by simp) (fun t h=>h) rfl ⟨rfl,?_,?_,?_,?_⟩
    · exact jD (sz:=4) (fun hin=>by have:=(h3 _ hin).2;omega) h2
    · intro x hx;simp at hx;rcases hx with rfl|hx
      · exact ⟨h6,by dsimp only;omega⟩
      · have:=h3 x hx;exact ⟨this.1,by dsimp only;omega⟩
    · simp [resV,AV.erR,AV.er,DV.er,h1]
    · dsimp only;omega
  · rintro k x rest ⟨xs,ts⟩ nt hA ⟨⟨h1,h2,h3⟩,h4,h5,h6⟩
    dsimp only at h1 h2 h3 h4 h5
    have hsx:=Hs.2 x hA.mem
    (repeat' (first|with_reducible (first|refine bB ?_|refine b6 ?_|refine b8 ?_|refine b9 ?_|refine bC ?_|refine aS ?_|refine b5 ?_|refine aY ?_|refine aQ ?_|refine aZ ?_|refine aT ?_|refine b4 rfl ?_|(refine hK _ ?_;clear K hK)|refine aW rfl ?_|refine aX rfl ?_|intro hfact)|(with_reducible refine And.intro ?_ ?_;focus (first|assumption|omega|(simp;done)|((repeat' apply And.intro)<;>first|assumption|omega)|((repeat' split)<;>omega)))|((first|with_reducible (first|((refine bA TT ?_);intro K hK)|((refine aV TT ?_);intro K hK)|((refine b7 TT [] MX (by kernel_rfl) (by kernel_rfl) ?_);intro K hK)|((refine aU TT [] MX (by kernel_rfl) (by kernel_rfl) ?_);intro K hK))|(with_reducible (first|refine aR TT E (fun hb=>?_) (fun hb=>?_)|refine aP TT E (fun hb=>?_) (fun hb=>?_)|refine aO TT _ _ (fun hb=>?_) (fun hb=>?_)|refine aN TT _ _ (fun hb=>?_) (fun hb=>?_))<;>try simp only [hb]))<;>simp only [go_sem,↓reduceIte,aF,aG,a7,a9,aB,aC,aA,aD,a8,reduceCtorEq,aE,aH,aI,aJ,aK,hA.d,hA.w,hA.lt,hA.g,cC])))
    refine cW TT E [] (hel x hA.mem hsx) rfl rfl rfl (by decide) ?_
    rintro r os t1 m1 ⟨rfl,hO,hT1,hE,hm1⟩
    obtain ⟨cs,rfl,hcs,hO1,hlen⟩:=j1 hO hE
    dsimp only at hT1 hm1
    have hl : cs.length = 4:=hlen
    have hkl:=hA.lt
    have g1 : k * 4 + 4 ≤ (fillA [.int .i64 0,.int .i64 0,.str [],.sl 4 [] .full] xs l.length).length:=by rw [gE (z:=[.int .i64 0,.int .i64 0,.str [],.sl 4 [] .full]) h4 (by omega)];simp only [List.length_cons,List.length_nil];omega
    have g2 : layL (fillA [.int .i64 0,.int .i64 0,.str [],.sl 4 [] .full] xs l.length) (k * 4) cs = fillA [.int .i64 0,.int .i64 0,.str [],.sl 4 [] .full] (xs ++ [cs]) l.length:=by
      have:=fillA_set (z:=[.int .i64 0,.int .i64 0,.str [],.sl 4 [] .full]) (y:=cs) (n:=l.length) h4 hl (by omega)
      rw [h5] at this
      exact this
    simp only [go_sem,↓reduceIte,a7,a9,aA,a8,reduceCtorEq]
    (repeat' (first|with_reducible (first|refine bB ?_|refine b6 ?_|refine b8 ?_|refine b9 ?_|refine bC ?_|refine aS ?_|refine b5 ?_|refine aY ?_|refine aQ ?_|refine aZ ?_|refine aT ?_|refine b4 rfl ?_|(refine hK _ ?_;clear K hK)|refine aW rfl ?_|refine aX rfl ?_|intro hfact)|(with_reducible refine And.intro ?_ ?_;focus (first|assumption|omega|(simp;done)|((repeat' apply And.intro)<;>first|assumption|omega)|((repeat' split)<;>omega)))|((first|with_reducible (first|((refine bA TT ?_);intro K hK)|((refine aV TT ?_);intro K hK)|((refine b7 TT [] MX (by kernel_rfl) (by kernel_rfl) ?_);intro K hK)|((refine aU TT [] MX (by kernel_rfl) (by kernel_rfl) ?_);intro K hK))|(with_reducible (first|refine aR TT E (fun hb=>?_) (fun hb=>?_)|refine aP TT E (fun hb=>?_) (fun hb=>?_)|refine aO TT _ _ (fun hb=>?_) (fun hb=>?_)|refine aN TT _ _ (fun hb=>?_) (fun hb=>?_))<;>try simp only [hb]))<;>simp only [go_sem,↓reduceIte,aF,aG,a7,a9,aB,aC,aA,aD,a8,reduceCtorEq,aE,aH,aI,aJ,aK,hl,g1,g2,hA.lt,hA.w])))
    refine ⟨(xs ++ [cs],ts ++ t1),⟨⟨?_,?_,?_⟩,?_,?_,?_⟩,?_⟩
    · rw [fZ,hA.snoc,List.map_append,h1];simp [erLL,hcs,cC]
    · exact iN h2 hO1 (eK (fun t ht=>(h3 t ht).2) (fun t ht=>(hT1 t ht).1))
    · intro t ht;rcases List.mem_append.1 ht with h|h
      · have:=h3 t h;exact ⟨this.1,by dsimp only;omega⟩
      · have:=hT1 t h;exact ⟨by omega,this.2⟩
    · intro y hy;rcases List.mem_append.1 hy with h|h
      · exact h4 y h
      · simp at h;subst h;exact hl
    · simp [h5]
    · dsimp only;omega
    · unfold ASubW;simp only [go_sem,↓reduceIte,a7,a9,aA,a8,reduceCtorEq,hk,g2];(try simp);(try (intro t ht;rcases ht with ht|ht<;>simp [ht]))
theorem toExprO_all : ∀ e,toElO e:=by
  intro e
  induction e using Expr.ind with
  | h k n nm ps ih =>
  intro hsm
  have hsm':=(smExpr_mk hsm).2
  dsimp only [Expr.kind,Expr.number,Expr.name,Expr.parts]
  refine bD TT Tryz.call102 Tryz.func102 rfl (by simp [Tryz.ntmps102]) (by kernel_rfl) fun E hk=>?_
  (repeat' (first|with_reducible (first|refine bB ?_|refine b6 ?_|refine b8 ?_|refine b9 ?_|refine bC ?_|refine aS ?_|refine b5 ?_|refine aY ?_|refine aQ ?_|refine aZ ?_|refine aT ?_|refine b4 rfl ?_|(refine hK _ ?_;clear K hK)|refine aW rfl ?_|refine aX rfl ?_|intro hfact)|(with_reducible refine And.intro ?_ ?_;focus (first|assumption|omega|(simp;done)|((repeat' apply And.intro)<;>first|assumption|omega)|((repeat' split)<;>omega)))|((first|with_reducible (first|((refine bA TT ?_);intro K hK)|((refine aV TT ?_);intro K hK)|((refine b7 TT [] MX (by kernel_rfl) (by kernel_rfl) ?_);intro K hK)|((refine aU TT [] MX (by kernel_rfl) (by kernel_rfl) ?_);intro K hK))|(with_reducible (first|refine aR TT E (fun hb=>?_) (fun hb=>?_)|refine aP TT E (fun hb=>?_) (fun hb=>?_)|refine aO TT _ _ (fun hb=>?_) (fun hb=>?_)|refine aN TT _ _ (fun hb=>?_) (fun hb=>?_))<;>try simp only [hb]))<;>simp only [go_sem,↓reduceIte,aF,aG,a7,a9,aB,aC,aA,aD,a8,reduceCtorEq,aE,aH,aI,aJ,aK])))
  refine cW TT E [] (toExprSO_of ps ih hsm') rfl rfl rfl (by decide) ?_
  rintro r os t0 m0 ⟨rfl,hO,hT0,hE,hm0⟩
  obtain ⟨D0,rfl,hD0,hO0⟩:=own_d hO hE
  dsimp only at hT0 hm0
  simp only [go_sem,↓reduceIte,a7,a9,aA,a8,reduceCtorEq]
  (repeat' (first|with_reducible (first|refine bB ?_|refine b6 ?_|refine b8 ?_|refine b9 ?_|refine bC ?_|refine aS ?_|refine b5 ?_|refine aY ?_|refine aQ ?_|refine aZ ?_|refine aT ?_|refine b4 rfl ?_|(refine hK _ ?_;clear K hK)|refine aW rfl ?_|refine aX rfl ?_|intro hfact)|(with_reducible refine And.intro ?_ ?_;focus (first|assumption|omega|(simp;done)|((repeat' apply And.intro)<;>first|assumption|omega)|((repeat' split)<;>omega)))|((first|with_reducible (first|((refine bA TT ?_);intro K hK)|((refine aV TT ?_);intro K hK)|((refine b7 TT [] MX (by kernel_rfl) (by kernel_rfl) ?_);intro K hK)|((refine aU TT [] MX (by kernel_rfl) (by kernel_rfl) ?_);intro K hK))|(with_reducible (first|refine aR TT E (fun hb=>?_) (fun hb=>?_)|refine aP TT E (fun hb=>?_) (fun hb=>?_)|refine aO TT _ _ (fun hb=>?_) (fun hb=>?_)|refine aN TT _ _ (fun hb=>?_) (fun hb=>?_))<;>try simp only [hb]))<;>simp only [go_sem,↓reduceIte,aF,aG,a7,a9,aB,aC,aA,aD,a8,reduceCtorEq,aE,aH,aI,aJ,aK,hD0])))
  refine eS TT (m:=0) (toks:=t0) (by simp only [go_sem,↓reduceIte,a7,a9,aA,a8,reduceCtorEq,Tryz.results102];rfl) (by simp) (by intro t ht;simp at ht ⊢;exact ht) rfl ⟨rfl,?_,?_,?_,?_⟩
  · exact bY rfl (bY rfl (bY rfl (hQ hO0)))
  · intro x hx;have:=hT0 x hx;exact ⟨this.1,by dsimp only;omega⟩
  · simp [resV,AV.erR,AV.er,DV.er,erL,hD0]
  · dsimp only;omega
theorem toPolicyO (name' : List UInt8) (allow' : Bool) (who' : Int) (what' : Int) (acts' : Int) (when'kind' : Int) (when'number' : Int) (when'name' : List UInt8) (when'parts' : List Expr) (H0 : eC (Policy.mk name' allow' who' what' acts' (Expr.mk when'kind' when'number' when'name' when'parts'))) : AC Tryz.prog 63 [.agg [.str name',.bool allow',.int .i64 who',.int .i64 what',.int .i64 acts',.int .i64 when'kind',.int .i64 when'number',.str when'name',.sl 4 (when'parts'.map encE) .no]] [] (OwnR (.agg [.str name',.bool allow',.int .i64 who',.int .i64 what',.int .i64 acts',.int .i64 when'kind',.int .i64 when'number',.str when'name',.sl 4 (when'parts'.map encE) .no])):=by
  refine bD TT Tryz.call63 Tryz.func63 rfl (by simp [Tryz.ntmps63]) (by kernel_rfl) fun E hk=>?_
  (repeat' (first|with_reducible (first|refine bB ?_|refine b6 ?_|refine b8 ?_|refine b9 ?_|refine bC ?_|refine aS ?_|refine b5 ?_|refine aY ?_|refine aQ ?_|refine aZ ?_|refine aT ?_|refine b4 rfl ?_|(refine hK _ ?_;clear K hK)|refine aW rfl ?_|refine aX rfl ?_|intro hfact)|(with_reducible refine And.intro ?_ ?_;focus (first|assumption|omega|(simp;done)|((repeat' apply And.intro)<;>first|assumption|omega)|((repeat' split)<;>omega)))|((first|with_reducible (first|((refine bA TT ?_);intro K hK)|((refine aV TT ?_);intro K hK)|((refine b7 TT [] MX (by kernel_rfl) (by kernel_rfl) ?_);intro K hK)|((refine aU TT [] MX (by kernel_rfl) (by kernel_rfl) ?_);intro K hK))|(with_reducible (first|refine aR TT E (fun hb=>?_) (fun hb=>?_)|refine aP TT E (fun hb=>?_) (fun hb=>?_)|refine aO TT _ _ (fun hb=>?_) (fun hb=>?_)|refine aN TT _ _ (fun hb=>?_) (fun hb=>?_))<;>try simp only [hb]))<;>simp only [go_sem,↓reduceIte,aF,aG,a7,a9,aB,aC,aA,aD,a8,reduceCtorEq,aE,aH,aI,aJ,aK])))
  refine cW TT E [] (toExprO_all (.mk when'kind' when'number' when'name' when'parts') H0.2) rfl rfl rfl (by decide) ?_
  rintro r os t0 m0 ⟨rfl,hO,hT0,hE,hm0⟩
  obtain ⟨cs,rfl,hcs,hO0,hlen⟩:=j1 hO hE
  obtain ⟨cs1,rfl,hcs,hO0⟩:=dF hcs rfl hO0
  obtain ⟨cs2,rfl,hcs,hO0⟩:=dF hcs rfl hO0
  obtain ⟨cs3,rfl,hcs,hO0⟩:=dF hcs rfl hO0
  obtain ⟨D0,rfl,hD0,hO0⟩:=own_last hcs hO0
  dsimp only at hT0 hm0
  dsimp only [Expr.kind,Expr.number,Expr.name,Expr.parts] at *
  simp only [go_sem,↓reduceIte,a7,a9,aA,a8,reduceCtorEq]
  (repeat' (first|with_reducible (first|refine bB ?_|refine b6 ?_|refine b8 ?_|refine b9 ?_|refine bC ?_|refine aS ?_|refine b5 ?_|refine aY ?_|refine aQ ?_|refine aZ ?_|refine aT ?_|refine b4 rfl ?_|(refine hK _ ?_;clear K hK)|refine aW rfl ?_|refine aX rfl ?_|intro hfact)|(with_reducible refine And.intro ?_ ?_;focus (first|assumption|omega|(simp;done)|((repeat' apply And.intro)<;>first|assumption|omega)|((repeat' split)<;>omega)))|((first|with_reducible (first|((refine bA TT ?_);intro K hK)|((refine aV TT ?_);intro K hK)|((refine b7 TT [] MX (by kernel_rfl) (by kernel_rfl) ?_);intro K hK)|((refine aU TT [] MX (by kernel_rfl) (by kernel_rfl) ?_);intro K hK))|(with_reducible (first|refine aR TT E (fun hb=>?_) (fun hb=>?_)|refine aP TT E (fun hb=>?_) (fun hb=>?_)|refine aO TT _ _ (fun hb=>?_) (fun hb=>?_)|refine aN TT _ _ (fun hb=>?_) (fun hb=>?_))<;>try simp only [hb]))<;>simp only [go_sem,↓reduceIte,aF,aG,a7,a9,aB,aC,aA,aD,a8,reduceCtorEq,aE,aH,aI,aJ,aK,hD0])))
  refine eS TT (m:=0) (toks:=t0) (by simp only [go_sem,↓reduceIte,a7,a9,aA,a8,reduceCtorEq,Tryz.results63];rfl) (by simp) (by intro t ht;simp at ht ⊢;exact ht) rfl ⟨rfl,?_,?_,?_,?_⟩
  · exact bY rfl (bY rfl (bY rfl (bY rfl (bY rfl (bY rfl (bY rfl (bY rfl (hQ hO0))))))))
  · intro x hx;have:=hT0 x hx;exact ⟨this.1,by dsimp only;omega⟩
  · simp [resV,AV.erR,AV.er,DV.er,erL,hD0]
  · dsimp only;omega
theorem toPolicySO (l : List Policy) (Hs : smL eC l) : AC Tryz.prog 17 [LP l] [] (OwnR (LP l)):=by
  refine bD TT Tryz.call17 Tryz.func17 rfl (by simp [Tryz.ntmps17]) (by kernel_rfl) fun E hk=>?_
  have hs1 : l.length ≤ 1048576:=Hs.1
  have hlim : l.length * 104 ≤ 281474976710656:=by omega
  (repeat' (first|with_reducible (first|refine bB ?_|refine b6 ?_|refine b8 ?_|refine b9 ?_|refine bC ?_|refine aS ?_|refine b5 ?_|refine aY ?_|refine aQ ?_|refine aZ ?_|refine aT ?_|refine b4 rfl ?_|(refine hK _ ?_;clear K hK)|refine aW rfl ?_|refine aX rfl ?_|intro hfact)|(with_reducible refine And.intro ?_ ?_;focus (first|assumption|omega|(simp;done)|((repeat' apply And.intro)<;>first|assumption|omega)|((repeat' split)<;>omega)))|((first|with_reducible (first|((refine bA TT ?_);intro K hK)|((refine aV TT ?_);intro K hK)|((refine b7 TT [] MX (by kernel_rfl) (by kernel_rfl) ?_);intro K hK)|((refine aU TT [] MX (by kernel_rfl) (by kernel_rfl) ?_);intro K hK))|(with_reducible (first|refine aR TT E (fun hb=>?_) (fun hb=>?_)|refine aP TT E (fun hb=>?_) (fun hb=>?_)|refine aO TT _ _ (fun hb=>?_) (fun hb=>?_)|refine aN TT _ _ (fun hb=>?_) (fun hb=>?_))<;>try simp only [hb]))<;>simp only [go_sem,↓reduceIte,aF,aG,a7,a9,aB,aC,aA,aD,a8,reduceCtorEq,aE,aH,aI,aJ,aK,hlim])))
  refine bQ (l) (List.length (l)) 0 [] [0,3] (fun k st=>[(4,I k)]) (fun obs k st=>[.cells (fillA [.str [],.bool false,.int .i64 0,.int .i64 0,.int .i64 0,.int .i64 0,.int .i64 0,.str [],.sl 4 [] .full] st.1 l.length)]) (fun k st=>st.2) (fun k rest st nt=>(erLL st.1 = (l.take k).map bL ∧ ownLL st.1 st.2 ∧ (∀ t ∈ st.2,E.nt0 ≤ t ∧ t < nt)) ∧ (∀ y ∈ st.1,y.length = 9) ∧ st.1.length = k ∧ E.nt0 ≤ nt) ((([] : List (List DV)),([] : List Nat))) (by first|rfl|(simp;done)|(simp;omega)) (by first|rfl|(simp only [go_sem,↓reduceIte,a7,a9,aA,a8,reduceCtorEq];done)|(simp only [go_sem,↓reduceIte,a7,a9,aA,a8,reduceCtorEq];simp;done)) (by simp only [go_sem,↓reduceIte,a7,a9,aA,a8,reduceCtorEq];rfl) (by first|rfl|(simp only [go_sem,↓reduceIte,a7,a9,aA,a8,reduceCtorEq];rfl)) (⟨⟨by simp [erLL],by simp [ownLL],by simp⟩,by simp,rfl,Nat.le_refl _⟩) (by unfold ASubW;simp only [go_sem,↓reduceIte,a7,a9,aA,a8,reduceCtorEq,hk];try simp [f0]) ?_ ?_
  · rintro ⟨xs,ts⟩ nt hmax ⟨⟨h1,h2,h3⟩,h4,h5,h6⟩
    dsimp only at h1 h2 h3 h4 h5
    rw [List.take_length] at h1
    refine hU 3 [0,4] [] rfl rfl rfl (gE (z:=[.str [],.bool false,.int .i64 0,.int .i64 0,.int .i64 0,.int .i64 0,.int .i64 0,.str [],.sl 4 [] .full]) (n:=l.length) h4 (Nat.le_of_eq h5)) rfl (by simp [hk]) rfl ?_
    rw [show chunk 9 l.length (fillA [.str [],.bool false,.int .i64 0,.int .i64 0,.int .i64 0,.int .i64 0,.int .i64 0,.str [],.sl 4 [] .full] xs l.length) = xs from jG (z:=[.str [],.bool false,.int .i64 0,.int .i64 0,.int .i64 0,.int .i64 0,.int .i64 0,.str [],.sl 4 [] .full]) h4 h5]
    (repeat' (first|with_reducible (first|refine bB ?_|refine b6 ?_|refine b8 ?_|refine b9 ?_|refine bC ?_|refine aS ?_|refine b5 ?_|refine aY ?_|refine aQ ?_|refine aZ ?_|refine aT ?_|refine b4 rfl ?_|(refine hK _ ?_;clear K hK)|refine aW rfl ?_|refine aX rfl ?_|intro hfact)|(with_reducible refine And.intro ?_ ?_;focus (first|assumption|omega|(simp;done)|((repeat' apply And.intro)<;>first|assumption|omega)|((repeat' split)<;>omega)))|((first|with_reducible (first|((refine bA TT ?_);intro K hK)|((refine aV TT ?_);intro K hK)|((refine b7 TT [] MX (by kernel_rfl) (by kernel_rfl) ?_);intro K hK)|((refine aU TT [] MX (by kernel_rfl) (by kernel_rfl) ?_);intro K hK))|(with_reducible (first|refine aR TT E (fun hb=>?_) (fun hb=>?_)|refine aP TT E (fun hb=>?_) (fun hb=>?_)|refine aO TT _ _ (fun hb=>?_) (fun hb=>?_)|refine aN TT _ _ (fun hb=>?_) (fun hb=>?_))<;>try simp only [hb]))<;>simp only [go_sem,↓reduceIte,aF,aG,a7,a9,aB,aC,aA,aD,a8,reduceCtorEq,aE,aH,aI,aJ,aK])))
    refine eS TT (m:=0) (toks:=nt :: ts) (by simp only [go_sem,↓reduceIte,a7,a9,aA,a8,reduceCtorEq,Tryz.results17];rfl) (by simp) (fun t h=>h) rfl ⟨rfl,?_,?_,?_,?_⟩
    · exact jD (sz:=9) (fun hin=>by have:=(h3 _ hin).2;omega) h2
    · intro x hx;simp at hx;rcases hx with rfl|hx
      · exact ⟨h6,by dsimp only;omega⟩
      · have:=h3 x hx;exact ⟨this.1,by dsimp only;omega⟩
    · simp [resV,AV.erR,AV.er,DV.er,h1]
    · dsimp only;omega
  · rintro k x rest ⟨xs,ts⟩ nt hA ⟨⟨h1,h2,h3⟩,h4,h5,h6⟩
    dsimp only at h1 h2 h3 h4 h5
    have hsx:=Hs.2 x hA.mem
    have hsx' : eC ⟨x.name,x.allow,x.who,x.what,x.acts,.mk x.when.kind x.when.number x.when.name x.when.parts⟩:=by rw [Expr.eta];exact hsx
    (repeat' (first|with_reducible (first|refine bB ?_|refine b6 ?_|refine b8 ?_|refine b9 ?_|refine bC ?_|refine aS ?_|refine b5 ?_|refine aY ?_|refine aQ ?_|refine aZ ?_|refine aT ?_|refine b4 rfl ?_|(refine hK _ ?_;clear K hK)|refine aW rfl ?_|refine aX rfl ?_|intro hfact)|(with_reducible refine And.intro ?_ ?_;focus (first|assumption|omega|(simp;done)|((repeat' apply And.intro)<;>first|assumption|omega)|((repeat' split)<;>omega)))|((first|with_reducible (first|((refine bA TT ?_);intro K hK)|((refine aV TT ?_);intro K hK)|((refine b7 TT [] MX (by kernel_rfl) (by kernel_rfl) ?_);intro K hK)|((refine aU TT [] MX (by kernel_rfl) (by kernel_rfl) ?_);intro K hK))|(with_reducible (first|refine aR TT E (fun hb=>?_) (fun hb=>?_)|refine aP TT E (fun hb=>?_) (fun hb=>?_)|refine aO TT _ _ (fun hb=>?_) (fun hb=>?_)|refine aN TT _ _ (fun hb=>?_) (fun hb=>?_))<;>try simp only [hb]))<;>simp only [go_sem,↓reduceIte,aF,aG,a7,a9,aB,aC,aA,aD,a8,reduceCtorEq,aE,aH,aI,aJ,aK,hA.d,hA.w,hA.lt,hA.g,bL])))
    refine cW TT E [] (toPolicyO x.name x.allow x.who x.what x.acts x.when.kind x.when.number x.when.name x.when.parts hsx') rfl rfl rfl (by decide) ?_
    rintro r os t1 m1 ⟨rfl,hO,hT1,hE,hm1⟩
    obtain ⟨cs,rfl,hcs,hO1,hlen⟩:=j1 hO hE
    dsimp only at hT1 hm1
    have hl : cs.length = 9:=hlen
    have hkl:=hA.lt
    have g1 : k * 9 + 9 ≤ (fillA [.str [],.bool false,.int .i64 0,.int .i64 0,.int .i64 0,.int .i64 0,.int .i64 0,.str [],.sl 4 [] .full] xs l.length).length:=by rw [gE (z:=[.str [],.bool false,.int .i64 0,.int .i64 0,.int .i64 0,.int .i64 0,.int .i64 0,.str [],.sl 4 [] .full]) h4 (by omega)];simp only [List.length_cons,List.length_nil];omega
    have g2 : layL (fillA [.str [],.bool false,.int .i64 0,.int .i64 0,.int .i64 0,.int .i64 0,.int .i64 0,.str [],.sl 4 [] .full] xs l.length) (k * 9) cs = fillA [.str [],.bool false,.int .i64 0,.int .i64 0,.int .i64 0,.int .i64 0,.int .i64 0,.str [],.sl 4 [] .full] (xs ++ [cs]) l.length:=by
      have:=fillA_set (z:=[.str [],.bool false,.int .i64 0,.int .i64 0,.int .i64 0,.int .i64 0,.int .i64 0,.str [],.sl 4 [] .full]) (y:=cs) (n:=l.length) h4 hl (by omega)
      rw [h5] at this
      exact this
    simp only [go_sem,↓reduceIte,a7,a9,aA,a8,reduceCtorEq]
    (repeat' (first|with_reducible (first|refine bB ?_|refine b6 ?_|refine b8 ?_|refine b9 ?_|refine bC ?_|refine aS ?_|refine b5 ?_|refine aY ?_|refine aQ ?_|refine aZ ?_|refine aT ?_|refine b4 rfl ?_|(refine hK _ ?_;clear K hK)|refine aW rfl ?_|refine aX rfl ?_|intro hfact)|(with_reducible refine And.intro ?_ ?_;focus (first|assumption|omega|(simp;done)|((repeat' apply And.intro)<;>first|assumption|omega)|((repeat' split)<;>omega)))|((first|with_reducible (first|((refine bA TT ?_);intro K hK)|((refine aV TT ?_);intro K hK)|((refine b7 TT [] MX (by kernel_rfl) (by kernel_rfl) ?_);intro K hK)|((refine aU TT [] MX (by kernel_rfl) (by kernel_rfl) ?_);intro K hK))|(with_reducible (first|refine aR TT E (fun hb=>?_) (fun hb=>?_)|refine aP TT E (fun hb=>?_) (fun hb=>?_)|refine aO TT _ _ (fun hb=>?_) (fun hb=>?_)|refine aN TT _ _ (fun hb=>?_) (fun hb=>?_))<;>try simp only [hb]))<;>simp only [go_sem,↓reduceIte,aF,aG,a7,a9,aB,aC,aA,aD,a8,reduceCtorEq,aE,aH,aI,aJ,aK,hl,g1,g2,hA.lt,hA.w])))
    refine ⟨(xs ++ [cs],ts ++ t1),⟨⟨?_,?_,?_⟩,?_,?_,?_⟩,?_⟩
    · rw [fZ,hA.snoc,List.map_append,h1];simp [erLL,hcs,bL]
    · exact iN h2 hO1 (eK (fun t ht=>(h3 t ht).2) (fun t ht=>(hT1 t ht).1))
    · intro t ht;rcases List.mem_append.1 ht with h|h
      · have:=h3 t h;exact ⟨this.1,by dsimp only;omega⟩
      · have:=hT1 t h;exact ⟨by omega,this.2⟩
    · intro y hy;rcases List.mem_append.1 hy with h|h
      · exact h4 y h
      · simp at h;subst h;exact hl
    · simp [h5]
    · dsimp only;omega
    · unfold ASubW;simp only [go_sem,↓reduceIte,a7,a9,aA,a8,reduceCtorEq,hk,g2];(try simp);(try (intro t ht;rcases ht with ht|ht<;>simp [ht]))
end Go.Proofs.YtmlnpimlfbfkbaaGreat
