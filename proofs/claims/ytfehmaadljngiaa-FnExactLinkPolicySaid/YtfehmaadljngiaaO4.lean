import Derived.Test.YtfehmaadljngiaaO3
open Int renaming reduceToNat → aE,reduceBEq → aF,reduceBNe → aG,reduceNeg → aH,reduceEq → aI,reduceLE → aJ,reduceLT → aK
open Nat renaming reduceEqDiff → a7,reduceLeDiff → a8,reduceAdd → a9,reduceLT → aA,reduceMul → aB,reduceSub → aC,reduceBEq → aD
namespace Go.Proofs.Ytfehmaadljngiaa
open Go Go.AL
set_option linter.unusedSimpArgs false
set_option linter.unusedVariables false
theorem polA_ex (o : Option Policy) : ∃ (gn : List UInt8) (ga : Bool) (gw gt gc gk gm : Int) (gl : List UInt8) (gps : List Expr) (b : Bool),polA o = .tup [.agg [.str gn,.bool ga,.int .i64 gw,.int .i64 gt,.int .i64 gc,.int .i64 gk,.int .i64 gm,.str gl,.sl 4 (gps.map encE) .no],.d (.bool b)] ∧ (gps = [] ∨ ∃ q,o = some q ∧ gps = q.when.parts):=by
  cases o with
  | none=>exact ⟨[],false,0,0,0,0,0,[],[],false,rfl,.inl rfl⟩
  | some q=>exact ⟨q.name,q.allow,q.who,q.what,q.acts,q.when.kind,q.when.number,q.when.name,q.when.parts,true,rfl,.inr ⟨q,rfl,rfl⟩⟩
theorem cEp_le {k n : Int} {nm : List UInt8} {ps : List Expr} (h : smExpr (.mk k n nm ps)) : cnL cE ps ≤ 8796093022208:=by
  have h2:=cnt_le_w (.mk k n nm ps)
  rw [cEs_cnt]
  have h3 : cntEs ps < cntE (.mk k n nm ps):=by rw [cR];omega
  unfold smExpr BIG at h
  omega
theorem smP_cnt {p : Policy} (h : eH p) : cntE p.when ≤ 4611686018427387904:=by
  have h1:=h.2
  have h2:=cnt_le_w p.when
  unfold smExpr BIG at h1
  omega
theorem openP_parts {p q : Policy} (h : openP p = some q) : q.when = p.when:=by
  unfold openP at h
  split at h
  · cases h;rfl
  · cases h
theorem linkP_parts {p q : Policy} {nm : List UInt8} {t : Int} (h : linkP p nm t = some q) : q.when = p.when:=by
  unfold linkP at h
  split at h
  · cases h;rfl
  · cases h
set_option maxHeartbeats 16000000 in
set_option maxRecDepth 100000 in
theorem xOpen (pname' : List UInt8) (pallow' : Bool) (pwho' : Int) (pwhat' : Int) (pacts' : Int) (pwhen'kind' : Int) (pwhen'number' : Int) (pwhen'name' : List UInt8) (pwhen'parts' : List Expr) : Gives Try.prog 3 [.agg [.str pname',.bool pallow',.int .i64 pwho',.int .i64 pwhat',.int .i64 pacts',.int .i64 pwhen'kind',.int .i64 pwhen'number',.str pwhen'name',.sl 4 (pwhen'parts'.map encE) .no]] (B true):=by
  refine bE TT Try.call3 Try.func3 rfl (by simp [Try.ntmps3]) (by kernel_rfl) fun E hk=>?_
  have hB : (1048576 : Int) ≤ BIG:=by unfold BIG;omega
  obtain ⟨gn,ga,gw,gt,gc,gk,gm,gl,gps,b,hg,hgp⟩:=polA_ex (openP (Policy.mk pname' pallow' pwho' pwhat' pacts' (Expr.mk pwhen'kind' pwhen'number' pwhen'name' pwhen'parts')))
  have hsp:=fun (h : eH (Policy.mk pname' pallow' pwho' pwhat' pacts' (Expr.mk pwhen'kind' pwhen'number' pwhen'name' pwhen'parts')))=>sopenP_ok pname' pallow' pwho' pwhat' pacts' pwhen'kind' pwhen'number' pwhen'name' pwhen'parts'  (smP_cnt h)
  have him:=openPO pname' pallow' pwho' pwhat' pacts' pwhen'kind' pwhen'number' pwhen'name' pwhen'parts' 
  have hip:=openP_ok pname' pallow' pwho' pwhat' pacts' pwhen'kind' pwhen'number' pwhen'name' pwhen'parts' 
  rw [hg] at him hip
  simp only [hg] at hsp
  (repeat' (first|(revert hdone;intro hdone;refine Stop.go ?_)|with_reducible (first|refine bC ?_|refine b6 ?_|refine bB ?_|refine b9 ?_|refine bD ?_|refine aR ?_|refine b8 ?_|refine aZ ?_|refine aO ?_|refine b4 ?_|refine aU ?_|refine aX rfl ?_|(refine hK _ ?_;clear K hK)|refine aY rfl ?_|refine aW rfl ?_|intro hfact)|(with_reducible refine And.intro ?_ ?_;focus (first|assumption|omega|(simp;done)|((repeat' apply And.intro)<;>first|assumption|omega)|((repeat' split)<;>omega)))|((first|with_reducible (first|((refine bA TT ?_);intro K hK)|((refine aV TT ?_);intro K hK)|((refine b7 TT [] MX (by kernel_rfl) (by kernel_rfl) ?_);intro K hK)|((refine aT TT [] MX (by kernel_rfl) (by kernel_rfl) ?_);intro K hK))|(with_reducible (first|refine aP TT E (fun hb=>?_) (fun hb=>?_)|refine aN TT E (fun hb=>?_) (fun hb=>?_)|refine aM TT _ _ (fun hb=>?_) (fun hb=>?_)|refine aL TT _ _ (fun hb=>?_) (fun hb=>?_))<;>try simp only [hb])|(refine cM TT E (eR pname' pallow' pwho' pwhat' pacts' pwhen'kind' pwhen'number' pwhen'name' pwhen'parts' _ (by first|assumption|omega|(refine (?_ : (0 : Int) ≤ _ → _) ?_<;>first|assumption|omega)|(simp;done)|(simp;omega)) (by first|assumption|omega|(refine (?_ : (0 : Int) ≤ _ → _) ?_<;>first|assumption|omega)|(simp;done)|(simp;omega))) rfl ?_;rintro _ m ⟨s0,rfl,hsa0,hsb0,hhp⟩ hm)|((first|refine aS TT E (bV pname' pallow' pwho' pwhat' pacts' pwhen'kind' pwhen'number' pwhen'name' pwhen'parts' (hhp (by omega))) rfl rfl ?_|refine aQ TT _ _ (bV pname' pallow' pwho' pwhat' pacts' pwhen'kind' pwhen'number' pwhen'name' pwhen'parts' (hhp (by omega))) rfl rfl ?_);intro m hm;try dsimp only at hm)|((first|refine aS TT E (hsp (hhp (by omega))) rfl rfl ?_|refine aQ TT _ _ (hsp (hhp (by omega))) rfl rfl ?_);intro m hm;try dsimp only at hm;have hdone : True:=trivial))<;>simp only [go_sem,↓reduceIte,aF,aG,a7,a9,aB,aC,aA,aD,a8,reduceCtorEq,aE,aH,aI,aJ,aK,bne_self_eq_false])|refine bH rfl (fun hb=>?_) (fun hb=>?_)|refine bJ rfl (fun hb=>?_) (fun hb=>?_)|refine bG rfl (fun hb=>?_) (fun hb=>?_)))
  all_goals first|(refine bI TT (by simp only [go_sem,↓reduceIte,a7,a9,aA,a8,reduceCtorEq,Try.results3];rfl) rfl ?_;rfl)|skip
  have hp:=hhp (by omega)
  have hcp:=cEp_le hp.2
  have hzp:=dY cE cE_nn pwhen'parts'
  have hcg : cnL cE gps ≤ 8796093022208:=by
    rcases hgp with rfl|⟨q,hq,rfl⟩
    · simp [cnL]
    · rw [openP_parts hq];exact hcp
  have hzg:=dY cE cE_nn gps
  refine ⟨?_⟩
  refine awp_pin 2 [1,4,5] rfl (by simp only [go_sem,↓reduceIte,a7,a9,aA,a8,reduceCtorEq];rfl) rfl (by simp [hk]) (by simp only [go_sem,↓reduceIte,a7,a9,aA,a8,reduceCtorEq]) ?_
  intro E ge go hk2 hpE hpO
  simp only [pnE,pnO,AV.pn,DV.pn,pnL,AO.pn,pinsE,pinsO,AV.pins,DV.pins,pinsL,AO.pins,cG,and_true,true_and] at hpE hpO ⊢
  obtain ⟨hq0,hq1⟩:=hpO
  (repeat' (first|with_reducible (first|refine bC ?_|refine b6 ?_|refine bB ?_|refine b9 ?_|refine bD ?_|refine aR ?_|refine b8 ?_|refine aZ ?_|refine aO ?_|refine b4 ?_|refine aU ?_|refine aX rfl ?_|(refine hK _ ?_;clear K hK)|refine aY rfl ?_|refine aW rfl ?_|intro hfact)|(with_reducible refine And.intro ?_ ?_;focus (first|assumption|omega|(simp;done)|((repeat' apply And.intro)<;>first|assumption|omega)|((repeat' split)<;>omega)))|((first|with_reducible (first|((refine bA TT ?_);intro K hK)|((refine aV TT ?_);intro K hK)|((refine b7 TT [] MX (by kernel_rfl) (by kernel_rfl) ?_);intro K hK)|((refine aT TT [] MX (by kernel_rfl) (by kernel_rfl) ?_);intro K hK))|(with_reducible (first|refine aP TT E (fun hb=>?_) (fun hb=>?_)|refine aN TT E (fun hb=>?_) (fun hb=>?_)|refine aM TT _ _ (fun hb=>?_) (fun hb=>?_)|refine aL TT _ _ (fun hb=>?_) (fun hb=>?_))<;>try simp only [hb]))<;>simp only [go_sem,↓reduceIte,aF,aG,a7,a9,aB,aC,aA,aD,a8,reduceCtorEq,aE,aH,aI,aJ,aK])|refine bH rfl (fun hb=>?_) (fun hb=>?_)|refine bJ rfl (fun hb=>?_) (fun hb=>?_)|refine bG rfl (fun hb=>?_) (fun hb=>?_)))
  refine cH TT E [] (toPolicyO pname' pallow' pwho' pwhat' pacts' pwhen'kind' pwhen'number' pwhen'name' pwhen'parts' hp) rfl rfl rfl (by decide) ?_
  rintro r os t0 m0 ⟨rfl,hO,hT0,hE,hm0⟩
  obtain ⟨cs,rfl,hcs,hO0,hl⟩:=eA hO hE
  obtain ⟨x1,rfl,hcs,hO0⟩:=bF hcs rfl hO0
  obtain ⟨x2,rfl,hcs,hO0⟩:=bF hcs rfl hO0
  obtain ⟨x3,rfl,hcs,hO0⟩:=bF hcs rfl hO0
  obtain ⟨x4,rfl,hcs,hO0⟩:=bF hcs rfl hO0
  obtain ⟨x5,rfl,hcs,hO0⟩:=bF hcs rfl hO0
  obtain ⟨x6,rfl,hcs,hO0⟩:=bF hcs rfl hO0
  obtain ⟨x7,rfl,hcs,hO0⟩:=bF hcs rfl hO0
  obtain ⟨x8,rfl,hcs,hO0⟩:=bF hcs rfl hO0
  obtain ⟨D0,rfl,hD0,hO0⟩:=dC hcs hO0
  dsimp only at hT0 hm0
  have hR0:=b5 (a:=.str pname') rfl (b5 (a:=.bool pallow') rfl (b5 (a:=.int .i64 pwho') rfl (b5 (a:=.int .i64 pwhat') rfl (b5 (a:=.int .i64 pacts') rfl (b5 (a:=.int .i64 pwhen'kind') rfl (b5 (a:=.int .i64 pwhen'number') rfl (b5 (a:=.str pwhen'name') rfl (bZ hO0))))))))
  simp only [go_sem,↓reduceIte,a7,a9,aA,a8,reduceCtorEq]
  (repeat' (first|with_reducible (first|refine bC ?_|refine b6 ?_|refine bB ?_|refine b9 ?_|refine bD ?_|refine aR ?_|refine b8 ?_|refine aZ ?_|refine aO ?_|refine b4 ?_|refine aU ?_|refine aX rfl ?_|(refine hK _ ?_;clear K hK)|refine aY rfl ?_|refine aW rfl ?_|intro hfact)|(with_reducible refine And.intro ?_ ?_;focus (first|assumption|omega|(simp;done)|((repeat' apply And.intro)<;>first|assumption|omega)|((repeat' split)<;>omega)))|((first|with_reducible (first|((refine bA TT ?_);intro K hK)|((refine aV TT ?_);intro K hK)|((refine b7 TT [] MX (by kernel_rfl) (by kernel_rfl) ?_);intro K hK)|((refine aT TT [] MX (by kernel_rfl) (by kernel_rfl) ?_);intro K hK))|(with_reducible (first|refine aP TT E (fun hb=>?_) (fun hb=>?_)|refine aN TT E (fun hb=>?_) (fun hb=>?_)|refine aM TT _ _ (fun hb=>?_) (fun hb=>?_)|refine aL TT _ _ (fun hb=>?_) (fun hb=>?_))<;>try simp only [hb]))<;>simp only [go_sem,↓reduceIte,aF,aG,a7,a9,aB,aC,aA,aD,a8,reduceCtorEq,aE,aH,aI,aJ,aK,hD0])|refine bH rfl (fun hb=>?_) (fun hb=>?_)|refine bJ rfl (fun hb=>?_) (fun hb=>?_)|refine bG rfl (fun hb=>?_) (fun hb=>?_)))
  refine cH TT E [] him rfl rfl rfl (by decide) ?_
  rintro r os t1 m1 ⟨rfl,hO,hT1,hE,hm1⟩
  obtain ⟨cs,rfl,hcs,hO1,hl⟩:=own_tupa hO hE
  obtain ⟨x1,rfl,hcs,hO1⟩:=bF hcs rfl hO1
  obtain ⟨x2,rfl,hcs,hO1⟩:=bF hcs rfl hO1
  obtain ⟨x3,rfl,hcs,hO1⟩:=bF hcs rfl hO1
  obtain ⟨x4,rfl,hcs,hO1⟩:=bF hcs rfl hO1
  obtain ⟨x5,rfl,hcs,hO1⟩:=bF hcs rfl hO1
  obtain ⟨x6,rfl,hcs,hO1⟩:=bF hcs rfl hO1
  obtain ⟨x7,rfl,hcs,hO1⟩:=bF hcs rfl hO1
  obtain ⟨x8,rfl,hcs,hO1⟩:=bF hcs rfl hO1
  obtain ⟨D1,rfl,hD1,hO1⟩:=dC hcs hO1
  dsimp only at hT1 hm1
  have hR1:=b5 (a:=.str gn) rfl (b5 (a:=.bool ga) rfl (b5 (a:=.int .i64 gw) rfl (b5 (a:=.int .i64 gt) rfl (b5 (a:=.int .i64 gc) rfl (b5 (a:=.int .i64 gk) rfl (b5 (a:=.int .i64 gm) rfl (b5 (a:=.str gl) rfl (bZ hO1))))))))
  simp only [go_sem,↓reduceIte,a7,a9,aA,a8,reduceCtorEq]
  have d10 : Disj t1 t0:=(disj_lt (m:=m0) (fun x hx=>by have:=(hT0 x hx).2;omega) (fun x hx=>by have:=(hT1 x hx).1;omega)).symm
  have mk0:=markPo_ok pname' pallow' pwho' pwhat' pacts' pwhen'kind' pwhen'number' pwhen'name' pwhen'parts' 1 (by omega) (by omega)
  have mk1:=markPo_ok gn ga gw gt gc gk gm gl gps 1 (by omega) (by omega)
  (repeat' (first|(refine awp_markO TT [1,4,5,7,8] t0 t1 mk0 (by simp [erL,DV.er,hD0]) (by simp [erL,DV.er,cG]) rfl rfl rfl hR0 (by intro t ht;simp [ht]) (by intro t ht;simp [ht]) d10 (by rfl) (by rfl) (by rfl) rfl ⟨trivial,trivial,trivial,trivial,trivial,trivial⟩ ⟨⟨trivial,trivial,trivial,trivial,trivial,trivial,trivial,trivial,hq0,trivial⟩,⟨trivial,trivial,trivial,trivial,trivial,trivial,trivial,trivial,hq1,trivial⟩,trivial,keep_ownL hR1 (by intro t ht;simp [ht]),trivial⟩ rfl rfl ?_;refine awp_gone 2 ?_)|(refine awp_markO TT [1,4,5,7,8] t1 [] mk1 (by simp [erL,DV.er,hD1]) (by simp [erL,DV.er,cG]) rfl rfl rfl hR1 (by intro t ht;simp [ht]) (by simp) (by intro t ht;simp at ht) (by rfl) (by rfl) (by rfl) rfl ⟨trivial,trivial,trivial,trivial,trivial,trivial⟩ ⟨⟨trivial,trivial,trivial,trivial,trivial,trivial,trivial,trivial,hq0,trivial⟩,⟨trivial,trivial,trivial,trivial,trivial,trivial,trivial,trivial,hq1,trivial⟩,trivial,trivial,trivial⟩ rfl rfl ?_)|with_reducible (first|refine bC ?_|refine b6 ?_|refine bB ?_|refine b9 ?_|refine bD ?_|refine aR ?_|refine b8 ?_|refine aZ ?_|refine aO ?_|refine b4 ?_|refine aU ?_|refine aX rfl ?_|(refine hK _ ?_;clear K hK)|refine aY rfl ?_|refine aW rfl ?_|intro hfact)|(with_reducible refine And.intro ?_ ?_;focus (first|assumption|omega|(simp;done)|((repeat' apply And.intro)<;>first|assumption|omega)|((repeat' split)<;>omega)))|((first|with_reducible (first|((refine bA TT ?_);intro K hK)|((refine aV TT ?_);intro K hK)|((refine b7 TT [] MX (by kernel_rfl) (by kernel_rfl) ?_);intro K hK)|((refine aT TT [] MX (by kernel_rfl) (by kernel_rfl) ?_);intro K hK))|(with_reducible (first|refine aP TT E (fun hb=>?_) (fun hb=>?_)|refine aN TT E (fun hb=>?_) (fun hb=>?_)|refine aM TT _ _ (fun hb=>?_) (fun hb=>?_)|refine aL TT _ _ (fun hb=>?_) (fun hb=>?_))<;>try simp only [hb])|((first|refine aS TT E (bV pname' pallow' pwho' pwhat' pacts' pwhen'kind' pwhen'number' pwhen'name' pwhen'parts' hp) rfl rfl ?_|refine aQ TT _ _ (bV pname' pallow' pwho' pwhat' pacts' pwhen'kind' pwhen'number' pwhen'name' pwhen'parts' hp) rfl rfl ?_);intro m hm;try dsimp only at hm)|((first|refine aS TT E (hip) rfl rfl ?_|refine aQ TT _ _ (hip) rfl rfl ?_);intro m hm;try dsimp only at hm)|((first|refine aS TT E (dK gn ga gw gt gc gk gm gl gps 1 (by omega) (by omega)) rfl rfl ?_|refine aQ TT _ _ (dK gn ga gw gt gc gk gm gl gps 1 (by omega) (by omega)) rfl rfl ?_);intro m hm;try dsimp only at hm)|(refine cM TT E (eR _ _ _ _ _ _ _ _ _  _ (by first|assumption|omega|(refine (?_ : (0 : Int) ≤ _ → _) ?_<;>first|assumption|omega)|(simp;done)|(simp;omega)) (by first|assumption|omega|(refine (?_ : (0 : Int) ≤ _ → _) ?_<;>first|assumption|omega)|(simp;done)|(simp;omega))) rfl ?_;rintro _ m ⟨sz,rfl,hsz1,hsz2,hsz3⟩ hm)|((first|refine aS TT E (sopenP_ok _ _ _ _ _ _ _ _ _ (by first|assumption|omega|(refine (?_ : (0 : Int) ≤ _ → _) ?_<;>first|assumption|omega)|(simp;done)|(simp;omega))) rfl rfl ?_|refine aQ TT _ _ (sopenP_ok _ _ _ _ _ _ _ _ _ (by first|assumption|omega|(refine (?_ : (0 : Int) ≤ _ → _) ?_<;>first|assumption|omega)|(simp;done)|(simp;omega))) rfl rfl ?_);intro m hm;try dsimp only at hm)|((first|refine aS TT E (bV _ _ _ _ _ _ _ _ _ (by first|assumption|omega|(refine (?_ : (0 : Int) ≤ _ → _) ?_<;>first|assumption|omega)|(simp;done)|(simp;omega))) rfl rfl ?_|refine aQ TT _ _ (bV _ _ _ _ _ _ _ _ _ (by first|assumption|omega|(refine (?_ : (0 : Int) ≤ _ → _) ?_<;>first|assumption|omega)|(simp;done)|(simp;omega))) rfl rfl ?_);intro m hm;try dsimp only at hm)|((first|refine aS TT E (openP_ok _ _ _ _ _ _ _ _ _) rfl rfl ?_|refine aQ TT _ _ (openP_ok _ _ _ _ _ _ _ _ _) rfl rfl ?_);intro m hm;try dsimp only at hm)|((first|refine aS TT E (eP _ _ _ _ _ _ _ _ _) rfl rfl ?_|refine aQ TT _ _ (eP _ _ _ _ _ _ _ _ _) rfl rfl ?_);intro m hm;try dsimp only at hm)|((first|refine aS TT E (dK _ _ _ _ _ _ _ _ _ _ (by first|assumption|omega|(refine (?_ : (0 : Int) ≤ _ → _) ?_<;>first|assumption|omega)|(simp;done)|(simp;omega)) (by first|assumption|omega|(refine (?_ : (0 : Int) ≤ _ → _) ?_<;>first|assumption|omega)|(simp;done)|(simp;omega))) rfl rfl ?_|refine aQ TT _ _ (dK _ _ _ _ _ _ _ _ _ _ (by first|assumption|omega|(refine (?_ : (0 : Int) ≤ _ → _) ?_<;>first|assumption|omega)|(simp;done)|(simp;omega)) (by first|assumption|omega|(refine (?_ : (0 : Int) ≤ _ → _) ?_<;>first|assumption|omega)|(simp;done)|(simp;omega))) rfl rfl ?_);intro m hm;try dsimp only at hm))<;>simp only [go_sem,↓reduceIte,aF,aG,a7,a9,aB,aC,aA,aD,a8,reduceCtorEq,aE,aH,aI,aJ,aK,hD0,hD1,bne_self_eq_false])|refine bH rfl (fun hb=>?_) (fun hb=>?_)|refine bJ rfl (fun hb=>?_) (fun hb=>?_)|refine bG rfl (fun hb=>?_) (fun hb=>?_)))
  all_goals first|exact QB_ret rfl|(exfalso;simp at *;omega)
end Go.Proofs.Ytfehmaadljngiaa
