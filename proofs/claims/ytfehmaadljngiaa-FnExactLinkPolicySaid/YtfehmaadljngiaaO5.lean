import Derived.Test.YtfehmaadljngiaaO4
open Int renaming reduceToNat → aE,reduceBEq → aF,reduceBNe → aG,reduceNeg → aH,reduceEq → aI,reduceLE → aJ,reduceLT → aK
open Nat renaming reduceEqDiff → a7,reduceLeDiff → a8,reduceAdd → a9,reduceLT → aA,reduceMul → aB,reduceSub → aC,reduceBEq → aD
namespace Go.Proofs.Ytfehmaadljngiaa
open Go Go.AL
set_option linter.unusedSimpArgs false
set_option linter.unusedVariables false
set_option maxHeartbeats 16000000 in
set_option maxRecDepth 100000 in
theorem xLink (pname' : List UInt8) (pallow' : Bool) (pwho' : Int) (pwhat' : Int) (pacts' : Int) (pwhen'kind' : Int) (pwhen'number' : Int) (pwhen'name' : List UInt8) (pwhen'parts' : List Expr) (nm : List UInt8) (t : Int) : Gives Try.prog 4 [.agg [.str pname',.bool pallow',.int .i64 pwho',.int .i64 pwhat',.int .i64 pacts',.int .i64 pwhen'kind',.int .i64 pwhen'number',.str pwhen'name',.sl 4 (pwhen'parts'.map encE) .no],S nm,I t] (B true):=by
  refine bE TT Try.call4 Try.func4 rfl (by simp [Try.ntmps4]) (by kernel_rfl) fun E hk=>?_
  have hB : (1048576 : Int) ≤ BIG:=by unfold BIG;omega
  obtain ⟨gn,ga,gw,gt,gc,gk,gm,gl,gps,b,hg,hgp⟩:=polA_ex (linkP (Policy.mk pname' pallow' pwho' pwhat' pacts' (Expr.mk pwhen'kind' pwhen'number' pwhen'name' pwhen'parts')) nm t)
  have hsp:=fun (h : eH (Policy.mk pname' pallow' pwho' pwhat' pacts' (Expr.mk pwhen'kind' pwhen'number' pwhen'name' pwhen'parts')))=>slinkP_ok pname' pallow' pwho' pwhat' pacts' pwhen'kind' pwhen'number' pwhen'name' pwhen'parts' nm t (smP_cnt h)
  have him:=linkPO pname' pallow' pwho' pwhat' pacts' pwhen'kind' pwhen'number' pwhen'name' pwhen'parts' nm t
  have hip:=linkP_ok pname' pallow' pwho' pwhat' pacts' pwhen'kind' pwhen'number' pwhen'name' pwhen'parts' nm t
  rw [hg] at him hip
  simp only [hg] at hsp
  (repeat' (first|(revert hdone;intro hdone;refine Stop.go ?_)|with_reducible (first|refine bC ?_|refine b6 ?_|refine bB ?_|refine b9 ?_|refine bD ?_|refine aR ?_|refine b8 ?_|refine aZ ?_|refine aO ?_|refine b4 ?_|refine aU ?_|refine aX rfl ?_|(refine hK _ ?_;clear K hK)|refine aY rfl ?_|refine aW rfl ?_|intro hfact)|(with_reducible refine And.intro ?_ ?_;focus (first|assumption|omega|(simp;done)|((repeat' apply And.intro)<;>first|assumption|omega)|((repeat' split)<;>omega)))|((first|with_reducible (first|((refine bA TT ?_);intro K hK)|((refine aV TT ?_);intro K hK)|((refine b7 TT [] MX (by kernel_rfl) (by kernel_rfl) ?_);intro K hK)|((refine aT TT [] MX (by kernel_rfl) (by kernel_rfl) ?_);intro K hK))|(with_reducible (first|refine aP TT E (fun hb=>?_) (fun hb=>?_)|refine aN TT E (fun hb=>?_) (fun hb=>?_)|refine aM TT _ _ (fun hb=>?_) (fun hb=>?_)|refine aL TT _ _ (fun hb=>?_) (fun hb=>?_))<;>try simp only [hb])|(refine cM TT E (eR pname' pallow' pwho' pwhat' pacts' pwhen'kind' pwhen'number' pwhen'name' pwhen'parts' _ (by first|assumption|omega|(refine (?_ : (0 : Int) ≤ _ → _) ?_<;>first|assumption|omega)|(simp;done)|(simp;omega)) (by first|assumption|omega|(refine (?_ : (0 : Int) ≤ _ → _) ?_<;>first|assumption|omega)|(simp;done)|(simp;omega))) rfl ?_;rintro _ m ⟨s0,rfl,hsa0,hsb0,hhp⟩ hm)|((first|refine aS TT E (bV pname' pallow' pwho' pwhat' pacts' pwhen'kind' pwhen'number' pwhen'name' pwhen'parts' (hhp (by omega))) rfl rfl ?_|refine aQ TT _ _ (bV pname' pallow' pwho' pwhat' pacts' pwhen'kind' pwhen'number' pwhen'name' pwhen'parts' (hhp (by omega))) rfl rfl ?_);intro m hm;try dsimp only at hm)|((first|refine aS TT E (hsp (hhp (by omega))) rfl rfl ?_|refine aQ TT _ _ (hsp (hhp (by omega))) rfl rfl ?_);intro m hm;try dsimp only at hm;have hdone : True:=trivial))<;>simp only [go_sem,↓reduceIte,aF,aG,a7,a9,aB,aC,aA,aD,a8,reduceCtorEq,aE,aH,aI,aJ,aK,bne_self_eq_false])|refine bH rfl (fun hb=>?_) (fun hb=>?_)|refine bJ rfl (fun hb=>?_) (fun hb=>?_)|refine bG rfl (fun hb=>?_) (fun hb=>?_)))
  all_goals first|(refine bI TT (by simp only [go_sem,↓reduceIte,a7,a9,aA,a8,reduceCtorEq,Try.results4];rfl) rfl ?_;rfl)|skip
  have hp:=hhp (by omega)
  have hcp:=cEp_le hp.2
  have hzp:=dY cE cE_nn pwhen'parts'
  have hcg : cnL cE gps ≤ 8796093022208:=by
    rcases hgp with rfl|⟨q,hq,rfl⟩
    · simp [cnL]
    · rw [linkP_parts hq];exact hcp
  have hzg:=dY cE cE_nn gps
  refine ⟨?_⟩
  refine awp_pin 6 [3,1,2,8,9] rfl (by simp only [go_sem,↓reduceIte,a7,a9,aA,a8,reduceCtorEq];rfl) rfl (by simp [hk]) (by simp only [go_sem,↓reduceIte,a7,a9,aA,a8,reduceCtorEq]) ?_
  intro E ge go hk2 hpE hpO
  simp only [pnE,pnO,AV.pn,DV.pn,pnL,AO.pn,pinsE,pinsO,AV.pins,DV.pins,pinsL,AO.pins,cG,and_true,true_and] at hpE hpO ⊢
  obtain ⟨hq0,hq1⟩:=hpO
  (repeat' (first|with_reducible (first|refine bC ?_|refine b6 ?_|refine bB ?_|refine b9 ?_|refine bD ?_|refine aR ?_|refine b8 ?_|refine aZ ?_|refine aO ?_|refine b4 ?_|refine aU ?_|refine aX rfl ?_|(refine hK _ ?_;clear K hK)|refine aY rfl ?_|refine aW rfl ?_|intro hfact)|(with_reducible refine And.intro ?_ ?_;focus (first|assumption|omega|(simp;done)|((repeat' apply And.intro)<;>first|assumption|omega)|((repeat' split)<;>omega)))|((first|with_reducible (first|((refine bA TT ?_);intro K hK)|((refine aV TT ?_);intro K hK)|((refine b7 TT [] MX (by kernel_rfl) (by kernel_rfl) ?_);intro K hK)|((refine aT TT [] MX (by kernel_rfl) (by kernel_rfl) ?_);intro K hK))|(with_reducible (first|refine aP TT E (fun hb=>?_) (fun hb=>?_)|refine aN TT E (fun hb=>?_) (fun hb=>?_)|refine aM TT _ _ (fun hb=>?_) (fun hb=>?_)|refine aL TT _ _ (fun hb=>?_) (fun hb=>?_))<;>try simp only [hb]))<;>simp only [go_sem,↓reduceIte,aF,aG,a7,a9,aB,aC,aA,aD,a8,reduceCtorEq,aE,aH,aI,aJ,aK])|refine bH rfl (fun hb=>?_) (fun hb=>?_)|refine bJ rfl (fun hb=>?_) (fun hb=>?_)|refine bG rfl (fun hb=>?_) (fun hb=>?_)))
  refine cH TT E [] (toPolicyO pname' pallow' pwho' pwhat' pacts' pwhen'kind' pwhen'number' pwhen'name' pwhen'parts' hp) rfl rfl rfl (by decide) ?_
  rintro r os t0 m0 ⟨rfl,hO,hT0,hE,hm0⟩
  obtain ⟨cs,rfl,hcs,hO0,hl⟩:=eA hO hE
  obtain ⟨x1,rfl,hcs,hO0⟩:=bF hcs rfl hO0
  obtain ⟨x2,rfl,hcs,hO0⟩:=bF hcs rfl hO0
  obtain ⟨x3,rfl,hcs,hO0⟩:=bF hcs rfl hO0
  obtain ⟨x4,rfl,hcs,hO0⟩:=bF hcs rfl hO0
  obtain ⟨x5,rfl,hcs,hO0⟩:=bF hcs rfl hO0
  obtain ⟨x6,rfl,hcs,hO0⟩:=bF hcs rfl hO0
  obtain ⟨x7,rfl,hcs,hO0⟩:=bF hcs rfl hO0
  obtain ⟨x8,rfl,hcs,hO0⟩:=bF hcs rfl hO0
  obtain ⟨D0,rfl,hD0,hO0⟩:=dC hcs hO0
  dsimp only at hT0 hm0
  have hR0:=b5 (a:=.str pname') rfl (b5 (a:=.bool pallow') rfl (b5 (a:=.int .i64 pwho') rfl (b5 (a:=.int .i64 pwhat') rfl (b5 (a:=.int .i64 pacts') rfl (b5 (a:=.int .i64 pwhen'kind') rfl (b5 (a:=.int .i64 pwhen'number') rfl (b5 (a:=.str pwhen'name') rfl (bZ hO0))))))))
  simp only [go_sem,↓reduceIte,a7,a9,aA,a8,reduceCtorEq]
  (repeat' (first|with_reducible (first|refine bC ?_|refine b6 ?_|refine bB ?_|refine b9 ?_|refine bD ?_|refine aR ?_|refine b8 ?_|refine aZ ?_|refine aO ?_|refine b4 ?_|refine aU ?_|refine aX rfl ?_|(refine hK _ ?_;clear K hK)|refine aY rfl ?_|refine aW rfl ?_|intro hfact)|(with_reducible refine And.intro ?_ ?_;focus (first|assumption|omega|(simp;done)|((repeat' apply And.intro)<;>first|assumption|omega)|((repeat' split)<;>omega)))|((first|with_reducible (first|((refine bA TT ?_);intro K hK)|((refine aV TT ?_);intro K hK)|((refine b7 TT [] MX (by kernel_rfl) (by kernel_rfl) ?_);intro K hK)|((refine aT TT [] MX (by kernel_rfl) (by kernel_rfl) ?_);intro K hK))|(with_reducible (first|refine aP TT E (fun hb=>?_) (fun hb=>?_)|refine aN TT E (fun hb=>?_) (fun hb=>?_)|refine aM TT _ _ (fun hb=>?_) (fun hb=>?_)|refine aL TT _ _ (fun hb=>?_) (fun hb=>?_))<;>try simp only [hb]))<;>simp only [go_sem,↓reduceIte,aF,aG,a7,a9,aB,aC,aA,aD,a8,reduceCtorEq,aE,aH,aI,aJ,aK,hD0])|refine bH rfl (fun hb=>?_) (fun hb=>?_)|refine bJ rfl (fun hb=>?_) (fun hb=>?_)|refine bG rfl (fun hb=>?_) (fun hb=>?_)))
  refine cH TT E [] him rfl rfl rfl (by decide) ?_
  rintro r os t1 m1 ⟨rfl,hO,hT1,hE,hm1⟩
  obtain ⟨cs,rfl,hcs,hO1,hl⟩:=own_tupa hO hE
  obtain ⟨x1,rfl,hcs,hO1⟩:=bF hcs rfl hO1
  obtain ⟨x2,rfl,hcs,hO1⟩:=bF hcs rfl hO1
  obtain ⟨x3,rfl,hcs,hO1⟩:=bF hcs rfl hO1
  obtain ⟨x4,rfl,hcs,hO1⟩:=bF hcs rfl hO1
  obtain ⟨x5,rfl,hcs,hO1⟩:=bF hcs rfl hO1
  obtain ⟨x6,rfl,hcs,hO1⟩:=bF hcs rfl hO1
  obtain ⟨x7,rfl,hcs,hO1⟩:=bF hcs rfl hO1
  obtain ⟨x8,rfl,hcs,hO1⟩:=bF hcs rfl hO1
  obtain ⟨D1,rfl,hD1,hO1⟩:=dC hcs hO1
  dsimp only at hT1 hm1
  have hR1:=b5 (a:=.str gn) rfl (b5 (a:=.bool ga) rfl (b5 (a:=.int .i64 gw) rfl (b5 (a:=.int .i64 gt) rfl (b5 (a:=.int .i64 gc) rfl (b5 (a:=.int .i64 gk) rfl (b5 (a:=.int .i64 gm) rfl (b5 (a:=.str gl) rfl (bZ hO1))))))))
  simp only [go_sem,↓reduceIte,a7,a9,aA,a8,reduceCtorEq]
  have d10 : Disj t1 t0:=(disj_lt (m:=m0) (fun x hx=>by have:=(hT0 x hx).2;omega) (fun x hx=>by have:=(hT1 x hx).1;omega)).symm
  have mk0:=markPo_ok pname' pallow' pwho' pwhat' pacts' pwhen'kind' pwhen'number' pwhen'name' pwhen'parts' 1 (by omega) (by omega)
  have mk1:=markPo_ok gn ga gw gt gc gk gm gl gps 1 (by omega) (by omega)
  (repeat' (first|(refine awp_markO TT [3,1,2,8,9,11,12] t0 t1 mk0 (by simp [erL,DV.er,hD0]) (by simp [erL,DV.er,cG]) rfl rfl rfl hR0 (by intro t ht;simp [ht]) (by intro t ht;simp [ht]) d10 (by rfl) (by rfl) (by rfl) rfl ⟨trivial,trivial,trivial,trivial,trivial,trivial,trivial,trivial⟩ ⟨⟨trivial,trivial,trivial,trivial,trivial,trivial,trivial,trivial,hq0,trivial⟩,⟨trivial,trivial,trivial,trivial,trivial,trivial,trivial,trivial,hq1,trivial⟩,trivial,keep_ownL hR1 (by intro t ht;simp [ht]),trivial⟩ rfl rfl ?_;refine awp_gone 2 ?_)|(refine awp_markO TT [3,1,2,8,9,11,12] t1 [] mk1 (by simp [erL,DV.er,hD1]) (by simp [erL,DV.er,cG]) rfl rfl rfl hR1 (by intro t ht;simp [ht]) (by simp) (by intro t ht;simp at ht) (by rfl) (by rfl) (by rfl) rfl ⟨trivial,trivial,trivial,trivial,trivial,trivial,trivial,trivial⟩ ⟨⟨trivial,trivial,trivial,trivial,trivial,trivial,trivial,trivial,hq0,trivial⟩,⟨trivial,trivial,trivial,trivial,trivial,trivial,trivial,trivial,hq1,trivial⟩,trivial,trivial,trivial⟩ rfl rfl ?_)|with_reducible (first|refine bC ?_|refine b6 ?_|refine bB ?_|refine b9 ?_|refine bD ?_|refine aR ?_|refine b8 ?_|refine aZ ?_|refine aO ?_|refine b4 ?_|refine aU ?_|refine aX rfl ?_|(refine hK _ ?_;clear K hK)|refine aY rfl ?_|refine aW rfl ?_|intro hfact)|(with_reducible refine And.intro ?_ ?_;focus (first|assumption|omega|(simp;done)|((repeat' apply And.intro)<;>first|assumption|omega)|((repeat' split)<;>omega)))|((first|with_reducible (first|((refine bA TT ?_);intro K hK)|((refine aV TT ?_);intro K hK)|((refine b7 TT [] MX (by kernel_rfl) (by kernel_rfl) ?_);intro K hK)|((refine aT TT [] MX (by kernel_rfl) (by kernel_rfl) ?_);intro K hK))|(with_reducible (first|refine aP TT E (fun hb=>?_) (fun hb=>?_)|refine aN TT E (fun hb=>?_) (fun hb=>?_)|refine aM TT _ _ (fun hb=>?_) (fun hb=>?_)|refine aL TT _ _ (fun hb=>?_) (fun hb=>?_))<;>try simp only [hb])|((first|refine aS TT E (bV pname' pallow' pwho' pwhat' pacts' pwhen'kind' pwhen'number' pwhen'name' pwhen'parts' hp) rfl rfl ?_|refine aQ TT _ _ (bV pname' pallow' pwho' pwhat' pacts' pwhen'kind' pwhen'number' pwhen'name' pwhen'parts' hp) rfl rfl ?_);intro m hm;try dsimp only at hm)|((first|refine aS TT E (hip) rfl rfl ?_|refine aQ TT _ _ (hip) rfl rfl ?_);intro m hm;try dsimp only at hm)|((first|refine aS TT E (dK gn ga gw gt gc gk gm gl gps 1 (by omega) (by omega)) rfl rfl ?_|refine aQ TT _ _ (dK gn ga gw gt gc gk gm gl gps 1 (by omega) (by omega)) rfl rfl ?_);intro m hm;try dsimp only at hm)|(refine cM TT E (eR _ _ _ _ _ _ _ _ _  _ (by first|assumption|omega|(refine (?_ : (0 : Int) ≤ _ → _) ?_<;>first|assumption|omega)|(simp;done)|(simp;omega)) (by first|assumption|omega|(refine (?_ : (0 : Int) ≤ _ → _) ?_<;>first|assumption|omega)|(simp;done)|(simp;omega))) rfl ?_;rintro _ m ⟨sz,rfl,hsz1,hsz2,hsz3⟩ hm)|((first|refine aS TT E (bV _ _ _ _ _ _ _ _ _ (by first|assumption|omega|(refine (?_ : (0 : Int) ≤ _ → _) ?_<;>first|assumption|omega)|(simp;done)|(simp;omega))) rfl rfl ?_|refine aQ TT _ _ (bV _ _ _ _ _ _ _ _ _ (by first|assumption|omega|(refine (?_ : (0 : Int) ≤ _ → _) ?_<;>first|assumption|omega)|(simp;done)|(simp;omega))) rfl rfl ?_);intro m hm;try dsimp only at hm)|((first|refine aS TT E (eP _ _ _ _ _ _ _ _ _) rfl rfl ?_|refine aQ TT _ _ (eP _ _ _ _ _ _ _ _ _) rfl rfl ?_);intro m hm;try dsimp only at hm)|((first|refine aS TT E (dK _ _ _ _ _ _ _ _ _ _ (by first|assumption|omega|(refine (?_ : (0 : Int) ≤ _ → _) ?_<;>first|assumption|omega)|(simp;done)|(simp;omega)) (by first|assumption|omega|(refine (?_ : (0 : Int) ≤ _ → _) ?_<;>first|assumption|omega)|(simp;done)|(simp;omega))) rfl rfl ?_|refine aQ TT _ _ (dK _ _ _ _ _ _ _ _ _ _ (by first|assumption|omega|(refine (?_ : (0 : Int) ≤ _ → _) ?_<;>first|assumption|omega)|(simp;done)|(simp;omega)) (by first|assumption|omega|(refine (?_ : (0 : Int) ≤ _ → _) ?_<;>first|assumption|omega)|(simp;done)|(simp;omega))) rfl rfl ?_);intro m hm;try dsimp only at hm)|((first|refine aS TT E (slinkP_ok _ _ _ _ _ _ _ _ _ _ _ (by first|assumption|omega|(refine (?_ : (0 : Int) ≤ _ → _) ?_<;>first|assumption|omega)|(simp;done)|(simp;omega))) rfl rfl ?_|refine aQ TT _ _ (slinkP_ok _ _ _ _ _ _ _ _ _ _ _ (by first|assumption|omega|(refine (?_ : (0 : Int) ≤ _ → _) ?_<;>first|assumption|omega)|(simp;done)|(simp;omega))) rfl rfl ?_);intro m hm;try dsimp only at hm)|((first|refine aS TT E (linkP_ok _ _ _ _ _ _ _ _ _ _ _) rfl rfl ?_|refine aQ TT _ _ (linkP_ok _ _ _ _ _ _ _ _ _ _ _) rfl rfl ?_);intro m hm;try dsimp only at hm))<;>simp only [go_sem,↓reduceIte,aF,aG,a7,a9,aB,aC,aA,aD,a8,reduceCtorEq,aE,aH,aI,aJ,aK,hD0,hD1,bne_self_eq_false])|refine bH rfl (fun hb=>?_) (fun hb=>?_)|refine bJ rfl (fun hb=>?_) (fun hb=>?_)|refine bG rfl (fun hb=>?_) (fun hb=>?_)))
  all_goals first|exact QB_ret rfl|(exfalso;simp at *;omega)
end Go.Proofs.Ytfehmaadljngiaa
