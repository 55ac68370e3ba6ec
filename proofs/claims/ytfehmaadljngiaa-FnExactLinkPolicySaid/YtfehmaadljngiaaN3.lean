import Derived.Test.YtfehmaadljngiaaM1
open Int renaming reduceToNat → aE,reduceBEq → aF,reduceBNe → aG,reduceNeg → aH,reduceEq → aI,reduceLE → aJ,reduceLT → aK
open Nat renaming reduceEqDiff → a7,reduceLeDiff → a8,reduceAdd → a9,reduceLT → aA,reduceMul → aB,reduceSub → aC,reduceBEq → aD
namespace Go.Proofs.Ytfehmaadljngiaa
open Go Go.AL
set_option linter.unusedSimpArgs false
set_option linter.unusedVariables false
def toElO (e : Expr) : Prop:=smExpr e → AC Try.prog 17 [.agg [.int .i64 e.kind,.int .i64 e.number,.str e.name,.sl 4 (e.parts.map encE) .no]] [] (OwnR (.agg [.int .i64 e.kind,.int .i64 e.number,.str e.name,.sl 4 (e.parts.map encE) .no]))
theorem toExprSO_of (l : List Expr) (hel : ∀ e ∈ l,toElO e) (Hs : smL smExpr l) : AC Try.prog 29 [LE l] [] (OwnR (LE l)):=by
  refine bE TT Try.call29 Try.func29 rfl (by simp [Try.ntmps29]) (by kernel_rfl) fun E hk=>?_
  have hs1 : l.length ≤ 1048576:=Hs.1
  have hlim : l.length * 56 ≤ 281474976710656:=by omega
  (repeat' (first|with_reducible (first|refine bC ?_|refine b6 ?_|refine bB ?_|refine b9 ?_|refine bD ?_|refine aR ?_|refine b8 ?_|refine aZ ?_|refine aO ?_|refine b4 ?_|refine aU ?_|refine aX rfl ?_|(refine hK _ ?_;clear K hK)|refine aY rfl ?_|refine aW rfl ?_|intro hfact)|(with_reducible refine And.intro ?_ ?_;focus (first|assumption|omega|(simp;done)|((repeat' apply And.intro)<;>first|assumption|omega)|((repeat' split)<;>omega)))|((first|with_reducible (first|((refine bA TT ?_);intro K hK)|((refine aV TT ?_);intro K hK)|((refine b7 TT [] MX (by kernel_rfl) (by kernel_rfl) ?_);intro K hK)|((refine aT TT [] MX (by kernel_rfl) (by kernel_rfl) ?_);intro K hK))|(with_reducible (first|refine aP TT E (fun hb=>?_) (fun hb=>?_)|refine aN TT E (fun hb=>?_) (fun hb=>?_)|refine aM TT _ _ (fun hb=>?_) (fun hb=>?_)|refine aL TT _ _ (fun hb=>?_) (fun hb=>?_))<;>try simp only [hb]))<;>simp only [go_sem,↓reduceIte,aF,aG,a7,a9,aB,aC,aA,aD,a8,reduceCtorEq,aE,aH,aI,aJ,aK,hlim])))
  refine d7 (l) (List.length (l)) 0 [] [0,3] (fun k st=>[(4,I k)]) (fun obs k st=>[.cells (fillA [.int .i64 0,.int .i64 0,.str [],.sl 4 [] .full] st.1 l.length)]) (fun k st=>st.2) (fun k rest st nt=>(erLL st.1 = (l.take k).map encE ∧ ownLL st.1 st.2 ∧ (∀ t ∈ st.2,E.nt0 ≤ t ∧ t < nt)) ∧ (∀ y ∈ st.1,y.length = 4) ∧ st.1.length = k ∧ E.nt0 ≤ nt) ((([] : List (List DV)),([] : List Nat))) (by first|rfl|(simp;done)|(simp;omega)) (by first|rfl|(simp only [go_sem,↓reduceIte,a7,a9,aA,a8,reduceCtorEq];done)|(simp only [go_sem,↓reduceIte,a7,a9,aA,a8,reduceCtorEq];simp;done)) (by simp only [go_sem,↓reduceIte,a7,a9,aA,a8,reduceCtorEq];rfl) (by first|rfl|(simp only [go_sem,↓reduceIte,a7,a9,aA,a8,reduceCtorEq];rfl)) (⟨⟨by simp [erLL],by simp [ownLL],by simp⟩,by simp,rfl,Nat.le_refl _⟩) (by unfold ASubW;simp only [go_sem,↓reduceIte,a7,a9,aA,a8,reduceCtorEq,hk];try simp [fillA_nil]) ?_ ?_
  · rintro ⟨xs,ts⟩ nt hmax ⟨⟨h1,h2,h3⟩,h4,h5,h6⟩
    dsimp only at h1 h2 h3 h4 h5
    rw [List.take_length] at h1
    refine awp_freezeT 3 [0,4] [] rfl rfl rfl (fillA_len (z:=[.int .i64 0,.int .i64 0,.str [],.sl 4 [] .full]) (n:=l.length) h4 (Nat.le_of_eq h5)) rfl (by simp [hk]) rfl ?_
    rw [show chunk 4 l.length (fillA [.int .i64 0,.int .i64 0,.str [],.sl 4 [] .full] xs l.length) = xs from fillA_full (z:=[.int .i64 0,.int .i64 0,.str [],.sl 4 [] .full]) h4 h5]
    (repeat' (first|with_reducible (first|refine bC ?_|refine b6 ?_|refine bB ?_|refine b9 ?_|refine bD ?_|refine aR ?_|refine b8 ?_|refine aZ ?_|refine aO ?_|refine b4 ?_|refine aU ?_|refine aX rfl ?_|(refine hK _ ?_;clear K hK)|refine aY rfl ?_|refine aW rfl ?_|intro hfact)|(with_reducible refine And.intro ?_ ?_;focus (first|assumption|omega|(simp;done)|((repeat' apply And.intro)<;>first|assumption|omega)|((repeat' split)<;>omega)))|((first|with_reducible (first|((refine bA TT ?_);intro K hK)|((refine aV TT ?_);intro K hK)|((refine b7 TT [] MX (by kernel_rfl) (by kernel_rfl) ?_);intro K hK)|((refine aT TT [] MX (by kernel_rfl) (by kernel_rfl) ?_);intro K hK))|(with_reducible (first|refine aP TT E (fun hb=>?_) (fun hb=>?_)|refine aN TT E (fun hb=>?_) (fun hb=>?_)|refine aM TT _ _ (fun hb=>?_) (fun hb=>?_)|refine aL TT _ _ (fun hb=>?_) (fun hb=>?_))<;>try simp only [hb]))<;>simp only [go_sem,↓reduceIte,aF,aG,a7,a9,aB,aC,aA,aD,a8,reduceCtorEq,aE,aH,aI,aJ,aK])))
    refine dX TT (m:=0) (toks:=nt :: ts) (by simp only [go_sem,↓reduceIte,a7,a9,aA,a8,reduceCtorEq,Try.results29];rfl) (by simp) (fun t h=>h) rfl ⟨rfl,?_,?_,?_,?_⟩
    · exact ownD_tok (sz:=4) (fun hin=>by have:=(h3 _ hin).2;omega) h2
    · intro x hx;simp at hx;rcases hx with rfl|hx
      · exact ⟨h6,by dsimp only;omega⟩
      · have:=h3 x hx;exact ⟨this.1,by dsimp only;omega⟩
    · simp [resV,AV.erR,AV.er,DV.er,h1]
    · dsimp only;omega
  · rintro k x rest ⟨xs,ts⟩ nt hA ⟨⟨h1,h2,h3⟩,h4,h5,h6⟩
    dsimp only at h1 h2 h3 h4 h5
    have hsx:=Hs.2 x hA.mem
    (repeat' (first|with_reducible (first|refine bC ?_|refine b6 ?_|refine bB ?_|refine b9 ?_|refine bD ?_|refine aR ?_|refine b8 ?_|refine aZ ?_|refine aO ?_|refine b4 ?_|refine aU ?_|refine aX rfl ?_|(refine hK _ ?_;clear K hK)|refine aY rfl ?_|refine aW rfl ?_|intro hfact)|(with_reducible refine And.intro ?_ ?_;focus (first|assumption|omega|(simp;done)|((repeat' apply And.intro)<;>first|assumption|omega)|((repeat' split)<;>omega)))|((first|with_reducible (first|((refine bA TT ?_);intro K hK)|((refine aV TT ?_);intro K hK)|((refine b7 TT [] MX (by kernel_rfl) (by kernel_rfl) ?_);intro K hK)|((refine aT TT [] MX (by kernel_rfl) (by kernel_rfl) ?_);intro K hK))|(with_reducible (first|refine aP TT E (fun hb=>?_) (fun hb=>?_)|refine aN TT E (fun hb=>?_) (fun hb=>?_)|refine aM TT _ _ (fun hb=>?_) (fun hb=>?_)|refine aL TT _ _ (fun hb=>?_) (fun hb=>?_))<;>try simp only [hb]))<;>simp only [go_sem,↓reduceIte,aF,aG,a7,a9,aB,aC,aA,aD,a8,reduceCtorEq,aE,aH,aI,aJ,aK,hA.d,hA.w,hA.lt,hA.g,c8])))
    refine cH TT E [] (hel x hA.mem hsx) rfl rfl rfl (by decide) ?_
    rintro r os t1 m1 ⟨rfl,hO,hT1,hE,hm1⟩
    obtain ⟨cs,rfl,hcs,hO1,hlen⟩:=eA hO hE
    dsimp only at hT1 hm1
    have hl : cs.length = 4:=hlen
    have hkl:=hA.lt
    have g1 : k * 4 + 4 ≤ (fillA [.int .i64 0,.int .i64 0,.str [],.sl 4 [] .full] xs l.length).length:=by rw [fillA_len (z:=[.int .i64 0,.int .i64 0,.str [],.sl 4 [] .full]) h4 (by omega)];simp only [List.length_cons,List.length_nil];omega
    have g2 : layL (fillA [.int .i64 0,.int .i64 0,.str [],.sl 4 [] .full] xs l.length) (k * 4) cs = fillA [.int .i64 0,.int .i64 0,.str [],.sl 4 [] .full] (xs ++ [cs]) l.length:=by
      have:=fillA_set (z:=[.int .i64 0,.int .i64 0,.str [],.sl 4 [] .full]) (y:=cs) (n:=l.length) h4 hl (by omega)
      rw [h5] at this
      exact this
    simp only [go_sem,↓reduceIte,a7,a9,aA,a8,reduceCtorEq]
    (repeat' (first|with_reducible (first|refine bC ?_|refine b6 ?_|refine bB ?_|refine b9 ?_|refine bD ?_|refine aR ?_|refine b8 ?_|refine aZ ?_|refine aO ?_|refine b4 ?_|refine aU ?_|refine aX rfl ?_|(refine hK _ ?_;clear K hK)|refine aY rfl ?_|refine aW rfl ?_|intro hfact)|(with_reducible refine And.intro ?_ ?_;focus (first|assumption|omega|(simp;done)|((repeat' apply And.intro)<;>first|assumption|omega)|((repeat' split)<;>omega)))|((first|with_reducible (first|((refine bA TT ?_);intro K hK)|((refine aV TT ?_);intro K hK)|((refine b7 TT [] MX (by kernel_rfl) (by kernel_rfl) ?_);intro K hK)|((refine aT TT [] MX (by kernel_rfl) (by kernel_rfl) ?_);intro K hK))|(with_reducible (first|refine aP TT E (fun hb=>?_) (fun hb=>?_)|refine aN TT E (fun hb=>?_) (fun hb=>?_)|refine aM TT _ _ (fun hb=>?_) (fun hb=>?_)|refine aL TT _ _ (fun hb=>?_) (fun hb=>?_))<;>try simp only [hb]))<;>simp only [go_sem,↓reduceIte,aF,aG,a7,a9,aB,aC,aA,aD,a8,reduceCtorEq,aE,aH,aI,aJ,aK,hl,g1,g2,hA.lt,hA.w])))
    refine ⟨(xs ++ [cs],ts ++ t1),⟨⟨?_,?_,?_⟩,?_,?_,?_⟩,?_⟩
    · rw [erLL_append,hA.snoc,List.map_append,h1];simp [erLL,hcs,c8]
    · exact ownLL_snoc h2 hO1 (disj_lt (fun t ht=>(h3 t ht).2) (fun t ht=>(hT1 t ht).1))
    · intro t ht;rcases List.mem_append.1 ht with h|h
      · have:=h3 t h;exact ⟨this.1,by dsimp only;omega⟩
      · have:=hT1 t h;exact ⟨by omega,this.2⟩
    · intro y hy;rcases List.mem_append.1 hy with h|h
      · exact h4 y h
      · simp at h;subst h;exact hl
    · simp [h5]
    · dsimp only;omega
    · unfold ASubW;simp only [go_sem,↓reduceIte,a7,a9,aA,a8,reduceCtorEq,hk,g2];(try simp);(try (intro t ht;rcases ht with ht|ht<;>simp [ht]))
theorem toExprO_all : ∀ e,toElO e:=by
  intro e
  induction e using Expr.ind with
  | h k n nm ps ih =>
  intro hsm
  have hsm':=(smExpr_mk hsm).2
  dsimp only [Expr.kind,Expr.number,Expr.name,Expr.parts]
  refine bE TT Try.call17 Try.func17 rfl (by simp [Try.ntmps17]) (by kernel_rfl) fun E hk=>?_
  (repeat' (first|with_reducible (first|refine bC ?_|refine b6 ?_|refine bB ?_|refine b9 ?_|refine bD ?_|refine aR ?_|refine b8 ?_|refine aZ ?_|refine aO ?_|refine b4 ?_|refine aU ?_|refine aX rfl ?_|(refine hK _ ?_;clear K hK)|refine aY rfl ?_|refine aW rfl ?_|intro hfact)|(with_reducible refine And.intro ?_ ?_;focus (first|assumption|omega|(simp;done)|((repeat' apply And.intro)<;>first|assumption|omega)|((repeat' split)<;>omega)))|((first|with_reducible (first|((refine bA TT ?_);intro K hK)|((refine aV TT ?_);intro K hK)|((refine b7 TT [] MX (by kernel_rfl) (by kernel_rfl) ?_);intro K hK)|((refine aT TT [] MX (by kernel_rfl) (by kernel_rfl) ?_);intro K hK))|(with_reducible (first|refine aP TT E (fun hb=>?_) (fun hb=>?_)|refine aN TT E (fun hb=>?_) (fun hb=>?_)|refine aM TT _ _ (fun hb=>?_) (fun hb=>?_)|refine aL TT _ _ (fun hb=>?_) (fun hb=>?_))<;>try simp only [hb]))<;>simp only [go_sem,↓reduceIte,aF,aG,a7,a9,aB,aC,aA,aD,a8,reduceCtorEq,aE,aH,aI,aJ,aK])))
  refine cH TT E [] (toExprSO_of ps ih hsm') rfl rfl rfl (by decide) ?_
  rintro r os t0 m0 ⟨rfl,hO,hT0,hE,hm0⟩
  obtain ⟨D0,rfl,hD0,hO0⟩:=own_d hO hE
  dsimp only at hT0 hm0
  simp only [go_sem,↓reduceIte,a7,a9,aA,a8,reduceCtorEq]
  (repeat' (first|with_reducible (first|refine bC ?_|refine b6 ?_|refine bB ?_|refine b9 ?_|refine bD ?_|refine aR ?_|refine b8 ?_|refine aZ ?_|refine aO ?_|refine b4 ?_|refine aU ?_|refine aX rfl ?_|(refine hK _ ?_;clear K hK)|refine aY rfl ?_|refine aW rfl ?_|intro hfact)|(with_reducible refine And.intro ?_ ?_;focus (first|assumption|omega|(simp;done)|((repeat' apply And.intro)<;>first|assumption|omega)|((repeat' split)<;>omega)))|((first|with_reducible (first|((refine bA TT ?_);intro K hK)|((refine aV TT ?_);intro K hK)|((refine b7 TT [] MX (by kernel_rfl) (by kernel_rfl) ?_);intro K hK)|((refine aT TT [] MX (by kernel_rfl) (by kernel_rfl) ?_);intro K hK))|(with_reducible (first|refine aP TT E (fun hb=>?_) (fun hb=>?_)|refine aN TT E (fun hb=>?_) (fun hb=>?_)|refine aM TT _ _ (fun hb=>?_) (fun hb=>?_)|refine aL TT _ _ (fun hb=>?_) (fun hb=>?_))<;>try simp only [hb]))<;>simp only [go_sem,↓reduceIte,aF,aG,a7,a9,aB,aC,aA,aD,a8,reduceCtorEq,aE,aH,aI,aJ,aK,hD0])))
  refine dX TT (m:=0) (toks:=t0) (by simp only [go_sem,↓reduceIte,a7,a9,aA,a8,reduceCtorEq,Try.results17];rfl) (by simp) (by intro t ht;simp at ht ⊢;exact ht) rfl ⟨rfl,?_,?_,?_,?_⟩
  · exact b5 rfl (b5 rfl (b5 rfl (bZ hO0)))
  · intro x hx;have:=hT0 x hx;exact ⟨this.1,by dsimp only;omega⟩
  · simp [resV,AV.erR,AV.er,DV.er,erL,hD0]
  · dsimp only;omega
theorem toPolicyO (name' : List UInt8) (allow' : Bool) (who' : Int) (what' : Int) (acts' : Int) (when'kind' : Int) (when'number' : Int) (when'name' : List UInt8) (when'parts' : List Expr) (H0 : eH (Policy.mk name' allow' who' what' acts' (Expr.mk when'kind' when'number' when'name' when'parts'))) : AC Try.prog 7 [.agg [.str name',.bool allow',.int .i64 who',.int .i64 what',.int .i64 acts',.int .i64 when'kind',.int .i64 when'number',.str when'name',.sl 4 (when'parts'.map encE) .no]] [] (OwnR (.agg [.str name',.bool allow',.int .i64 who',.int .i64 what',.int .i64 acts',.int .i64 when'kind',.int .i64 when'number',.str when'name',.sl 4 (when'parts'.map encE) .no])):=by
  refine bE TT Try.call7 Try.func7 rfl (by simp [Try.ntmps7]) (by kernel_rfl) fun E hk=>?_
  (repeat' (first|with_reducible (first|refine bC ?_|refine b6 ?_|refine bB ?_|refine b9 ?_|refine bD ?_|refine aR ?_|refine b8 ?_|refine aZ ?_|refine aO ?_|refine b4 ?_|refine aU ?_|refine aX rfl ?_|(refine hK _ ?_;clear K hK)|refine aY rfl ?_|refine aW rfl ?_|intro hfact)|(with_reducible refine And.intro ?_ ?_;focus (first|assumption|omega|(simp;done)|((repeat' apply And.intro)<;>first|assumption|omega)|((repeat' split)<;>omega)))|((first|with_reducible (first|((refine bA TT ?_);intro K hK)|((refine aV TT ?_);intro K hK)|((refine b7 TT [] MX (by kernel_rfl) (by kernel_rfl) ?_);intro K hK)|((refine aT TT [] MX (by kernel_rfl) (by kernel_rfl) ?_);intro K hK))|(with_reducible (first|refine aP TT E (fun hb=>?_) (fun hb=>?_)|refine aN TT E (fun hb=>?_) (fun hb=>?_)|refine aM TT _ _ (fun hb=>?_) (fun hb=>?_)|refine aL TT _ _ (fun hb=>?_) (fun hb=>?_))<;>try simp only [hb]))<;>simp only [go_sem,↓reduceIte,aF,aG,a7,a9,aB,aC,aA,aD,a8,reduceCtorEq,aE,aH,aI,aJ,aK])))
  refine cH TT E [] (toExprO_all (.mk when'kind' when'number' when'name' when'parts') H0.2) rfl rfl rfl (by decide) ?_
  rintro r os t0 m0 ⟨rfl,hO,hT0,hE,hm0⟩
  obtain ⟨cs,rfl,hcs,hO0,hlen⟩:=eA hO hE
  obtain ⟨cs1,rfl,hcs,hO0⟩:=bF hcs rfl hO0
  obtain ⟨cs2,rfl,hcs,hO0⟩:=bF hcs rfl hO0
  obtain ⟨cs3,rfl,hcs,hO0⟩:=bF hcs rfl hO0
  obtain ⟨D0,rfl,hD0,hO0⟩:=dC hcs hO0
  dsimp only at hT0 hm0
  dsimp only [Expr.kind,Expr.number,Expr.name,Expr.parts] at *
  simp only [go_sem,↓reduceIte,a7,a9,aA,a8,reduceCtorEq]
  (repeat' (first|with_reducible (first|refine bC ?_|refine b6 ?_|refine bB ?_|refine b9 ?_|refine bD ?_|refine aR ?_|refine b8 ?_|refine aZ ?_|refine aO ?_|refine b4 ?_|refine aU ?_|refine aX rfl ?_|(refine hK _ ?_;clear K hK)|refine aY rfl ?_|refine aW rfl ?_|intro hfact)|(with_reducible refine And.intro ?_ ?_;focus (first|assumption|omega|(simp;done)|((repeat' apply And.intro)<;>first|assumption|omega)|((repeat' split)<;>omega)))|((first|with_reducible (first|((refine bA TT ?_);intro K hK)|((refine aV TT ?_);intro K hK)|((refine b7 TT [] MX (by kernel_rfl) (by kernel_rfl) ?_);intro K hK)|((refine aT TT [] MX (by kernel_rfl) (by kernel_rfl) ?_);intro K hK))|(with_reducible (first|refine aP TT E (fun hb=>?_) (fun hb=>?_)|refine aN TT E (fun hb=>?_) (fun hb=>?_)|refine aM TT _ _ (fun hb=>?_) (fun hb=>?_)|refine aL TT _ _ (fun hb=>?_) (fun hb=>?_))<;>try simp only [hb]))<;>simp only [go_sem,↓reduceIte,aF,aG,a7,a9,aB,aC,aA,aD,a8,reduceCtorEq,aE,aH,aI,aJ,aK,hD0])))
  refine dX TT (m:=0) (toks:=t0) (by simp only [go_sem,↓reduceIte,a7,a9,aA,a8,reduceCtorEq,Try.results7];rfl) (by simp) (by intro t ht;simp at ht ⊢;exact ht) rfl ⟨rfl,?_,?_,?_,?_⟩
  · exact b5 rfl (b5 rfl (b5 rfl (b5 rfl (b5 rfl (b5 rfl (b5 rfl (b5 rfl (bZ hO0))))))))
  · intro x hx;have:=hT0 x hx;exact ⟨this.1,by dsimp only;omega⟩
  · simp [resV,AV.erR,AV.er,DV.er,erL,hD0]
  · dsimp only;omega
end Go.Proofs.Ytfehmaadljngiaa
