import Derived.Test.YtdfbaedkcfhdfaaU8
import Derived.Test.YtdfbaedkcfhdfaaM3T
open Int renaming reduceToNat → aF,reduceBEq → aG,reduceBNe → aH,reduceNeg → aI,reduceEq → aJ,reduceLE → aK,reduceLT → aL
open Nat renaming reduceEqDiff → a7,reduceLeDiff → a8,reduceAdd → aA,reduceLT → aB,reduceMul → aC,reduceSub → aD,reduceBEq → aE
namespace Go.Proofs.Ytdfbaedkcfhdfaa
open Go Go.AL
set_option linter.unusedSimpArgs false
set_option linter.unusedVariables false
theorem cT_le {l : List Thing} (h : smL eT l) : cnL cT l ≤ 8796093022208:=by
  refine mul_big (m:=4194304) (cnL_le cT (by omega) fun x hx=>?_) (by omega) (by omega) h.1
  have h1:=(h.2 x hx).1.1
  have h2:=(h.2 x hx).2.1
  rw [cT_eq,fR (c:=cI) (m:=1) (fun _=>rfl),fR (c:=cF) (m:=3) (fun _=>rfl)]
  unfold BIG at h1 h2
  omega
theorem cT_0 (l : List Thing) : 0 ≤ cnL cT l:=dH cT cT_nn l
theorem own_tupd {v : AV} {t : List Nat} {c : DV} {b : Bool} (h : ownA v t) (he : v.erR = .tup [.d c,.d (.bool b)]) : ∃ D,v = .tup [.d D,.d (.bool b)] ∧ D.er = c ∧ ownD D t:=by
  unfold ownA at h
  split at h
  · simp [AV.erR,AV.er] at he
  · simp [AV.erR,AV.er] at he
  · rename_i x y
    simp only [AV.erR,List.map_cons,List.map_nil,AV.er,DV.er,AV.tup.injEq,List.cons.injEq,AV.d.injEq,DV.bool.injEq,and_true] at he
    exact ⟨x,by rw [he.2],he.1,h⟩
  · simp [AV.erR,AV.er] at he
  · exact h.elim
theorem small_cT {y : List Thing} (h : y.length ≤ 1000 ∧ ∀ x ∈ y,x.groups.length ≤ 4000 ∧ x.fields.length ≤ 1000) : cnL cT y ≤ 8796093022208:=by
  refine mul_big (m:=4194304) (cnL_le cT (by omega) fun x hx=>?_) (by omega) (by omega) (by have:=h.1;omega)
  have h1:=h.2 x hx
  rw [cT_eq,fR (c:=cI) (m:=1) (fun _=>rfl),fR (c:=cF) (m:=3) (fun _=>rfl)]
  omega
theorem leave_ex (w : List Thing) (t g : Int) : ∃ y b,joinA (leaveB w t g) = .tup [LT y,.d (.bool b)] ∧ (y.length ≤ 1000 ∧ ∀ x ∈ y,x.groups.length ≤ 4000 ∧ x.fields.length ≤ 1000):=by
  cases hj : leaveB w t g with
  | none=>exact ⟨[],false,rfl,by simp,by simp⟩
  | some y =>
    refine ⟨y,true,rfl,?_⟩
    unfold leaveB at hj
    split at hj
    · rename_i hc
      simp only [Bool.and_eq_true] at hc
      have hs:=smallW_of hc.1
      split at hj
      · rename_i x hx
        split at hj
        · simp only [Option.some.injEq] at hj
          subst hj
          refine ⟨by rw [List.length_set];exact hs.1,fun z hz=>?_⟩
          rcases List.mem_or_eq_of_mem_set hz with hz|rfl
          · have:=hs.2 z hz;omega
          · have h1:=hs.2 x (List.mem_of_getElem? hx)
            have h2 : (outG g x.groups).length ≤ x.groups.length:=List.length_filter_le _ _
            exact ⟨by dsimp only;omega,h1.2⟩
        · cases hj
      · cases hj
    · cases hj
set_option maxHeartbeats 16000000 in
set_option maxRecDepth 100000 in
theorem xLeave (w : List Thing) (t' g' : Int) : Gives Try.prog 4 [LT w,I t',I g'] (B true):=by
  refine bE TT Try.call4 Try.func4 rfl (by simp [Try.ntmps4]) (by kernel_rfl) fun E hk=>?_
  have hB : (1048576 : Int) ≤ BIG:=by unfold BIG;omega
  obtain ⟨y,b,hj,hys⟩:=leave_ex w t' g'
  have hcy:=small_cT hys
  have hzy:=cT_0 y
  have him:=leaveO w t' g'
  have hsp:=sleave_ok w t' g'
  rw [hj] at him hsp
  have hip : Gives Try.prog 12 [LT w,I t',I g'] (.tup [LT y,.d (.bool b)]):=(AC.noTok him).erM fun n r o t m ⟨h1,t9,h2⟩=>⟨h2.2.2.2.1,h2.1,h1⟩
  (repeat' (first|(revert hdone;intro hdone;refine Stop.go ?_)|with_reducible (first|refine bC ?_|refine b7 ?_|refine bB ?_|refine bA ?_|refine bD ?_|refine aR ?_|refine b6 ?_|refine aX ?_|refine aO ?_|refine aY ?_|refine aU ?_|refine aZ rfl ?_|(refine hK _ ?_;clear K hK)|refine b4 rfl ?_|refine b5 rfl ?_|intro hfact)|(with_reducible refine And.intro ?_ ?_;focus (first|assumption|omega|(simp;done)|((repeat' apply And.intro)<;>first|assumption|omega)|((repeat' split)<;>omega)))|((first|with_reducible (first|((refine b9 TT ?_);intro K hK)|((refine aW TT ?_);intro K hK)|((refine b8 TT [] MX (by kernel_rfl) (by kernel_rfl) ?_);intro K hK)|((refine aT TT [] MX (by kernel_rfl) (by kernel_rfl) ?_);intro K hK))|(with_reducible (first|refine aP TT E (fun hb=>?_) (fun hb=>?_)|refine aQ TT E (fun hb=>?_) (fun hb=>?_)|refine aM TT _ _ (fun hb=>?_) (fun hb=>?_)|refine aN TT _ _ (fun hb=>?_) (fun hb=>?_))<;>try simp only [hb])|(refine cA TT E (szThingS_ok w _ (by first|assumption|omega|(refine (?_ : (0 : Int) ≤ _ → _) ?_<;>first|assumption|omega)|(simp;done)|(simp;omega)) (by first|assumption|omega|(refine (?_ : (0 : Int) ≤ _ → _) ?_<;>first|assumption|omega)|(simp;done)|(simp;omega))) rfl ?_;rintro _ m ⟨s0,rfl,hsa0,hsb0,hhw⟩ hm)|((first|refine aV TT E (e7 w (hhw (by omega))) rfl rfl ?_|refine aS TT _ _ (e7 w (hhw (by omega))) rfl rfl ?_);intro m hm;try dsimp only at hm)|((first|refine aV TT E (hsp) rfl rfl ?_|refine aS TT _ _ (hsp) rfl rfl ?_);intro m hm;try dsimp only at hm;have hdone : True:=trivial))<;>simp only [go_sem,↓reduceIte,aG,aH,a7,aA,aC,aD,aB,aE,a8,reduceCtorEq,aF,aI,aJ,aK,aL,bne_self_eq_false])|refine bQ rfl (fun hb=>?_) (fun hb=>?_)|refine bP rfl (fun hb=>?_) (fun hb=>?_)|refine bH rfl (fun hb=>?_) (fun hb=>?_)))
  all_goals first|(refine bF TT (by simp only [go_sem,↓reduceIte,a7,aA,aB,a8,reduceCtorEq,Try.results4];rfl) rfl ?_;rfl)|skip
  have hw:=hhw (by omega)
  have hcw:=cT_le hw
  have hzw:=cT_0 w
  refine ⟨?_⟩
  refine awp_pin 6 [0,1,2,8,9] rfl (by simp only [go_sem,↓reduceIte,a7,aA,aB,a8,reduceCtorEq];rfl) rfl (by simp [hk]) (by simp only [go_sem,↓reduceIte,a7,aA,aB,a8,reduceCtorEq]) ?_
  intro E ge go hk2 hpE hpO
  simp only [pnE,pnO,AV.pn,DV.pn,pnL,AO.pn,pinsE,pinsO,AV.pins,DV.pins,pinsL,AO.pins,fA,er_encT,fC,er_encS,er_encPolicy,and_true,true_and] at hpE ⊢
  obtain ⟨hp0,hp1⟩:=hpE
  (repeat' (first|with_reducible (first|refine bC ?_|refine b7 ?_|refine bB ?_|refine bA ?_|refine bD ?_|refine aR ?_|refine b6 ?_|refine aX ?_|refine aO ?_|refine aY ?_|refine aU ?_|refine aZ rfl ?_|(refine hK _ ?_;clear K hK)|refine b4 rfl ?_|refine b5 rfl ?_|intro hfact)|(with_reducible refine And.intro ?_ ?_;focus (first|assumption|omega|(simp;done)|((repeat' apply And.intro)<;>first|assumption|omega)|((repeat' split)<;>omega)))|((first|with_reducible (first|((refine b9 TT ?_);intro K hK)|((refine aW TT ?_);intro K hK)|((refine b8 TT [] MX (by kernel_rfl) (by kernel_rfl) ?_);intro K hK)|((refine aT TT [] MX (by kernel_rfl) (by kernel_rfl) ?_);intro K hK))|(with_reducible (first|refine aP TT E (fun hb=>?_) (fun hb=>?_)|refine aQ TT E (fun hb=>?_) (fun hb=>?_)|refine aM TT _ _ (fun hb=>?_) (fun hb=>?_)|refine aN TT _ _ (fun hb=>?_) (fun hb=>?_))<;>try simp only [hb]))<;>simp only [go_sem,↓reduceIte,aG,aH,a7,aA,aC,aD,aB,aE,a8,reduceCtorEq,aF,aI,aJ,aK,aL])|refine bQ rfl (fun hb=>?_) (fun hb=>?_)|refine bP rfl (fun hb=>?_) (fun hb=>?_)|refine bH rfl (fun hb=>?_) (fun hb=>?_)))
  refine eM TT E [] (toThingSO w hw) rfl rfl rfl (by decide) ?_
  rintro r os t0 m0 ⟨rfl,hO,hT0,hE,hm0⟩
  obtain ⟨D0,rfl,hD0,hO0⟩:=own_d hO hE
  dsimp only at hT0 hm0
  simp only [go_sem,↓reduceIte,a7,aA,aB,a8,reduceCtorEq]
  (repeat' (first|with_reducible (first|refine bC ?_|refine b7 ?_|refine bB ?_|refine bA ?_|refine bD ?_|refine aR ?_|refine b6 ?_|refine aX ?_|refine aO ?_|refine aY ?_|refine aU ?_|refine aZ rfl ?_|(refine hK _ ?_;clear K hK)|refine b4 rfl ?_|refine b5 rfl ?_|intro hfact)|(with_reducible refine And.intro ?_ ?_;focus (first|assumption|omega|(simp;done)|((repeat' apply And.intro)<;>first|assumption|omega)|((repeat' split)<;>omega)))|((first|with_reducible (first|((refine b9 TT ?_);intro K hK)|((refine aW TT ?_);intro K hK)|((refine b8 TT [] MX (by kernel_rfl) (by kernel_rfl) ?_);intro K hK)|((refine aT TT [] MX (by kernel_rfl) (by kernel_rfl) ?_);intro K hK))|(with_reducible (first|refine aP TT E (fun hb=>?_) (fun hb=>?_)|refine aQ TT E (fun hb=>?_) (fun hb=>?_)|refine aM TT _ _ (fun hb=>?_) (fun hb=>?_)|refine aN TT _ _ (fun hb=>?_) (fun hb=>?_))<;>try simp only [hb]))<;>simp only [go_sem,↓reduceIte,aG,aH,a7,aA,aC,aD,aB,aE,a8,reduceCtorEq,aF,aI,aJ,aK,aL,hD0])|refine bQ rfl (fun hb=>?_) (fun hb=>?_)|refine bP rfl (fun hb=>?_) (fun hb=>?_)|refine bH rfl (fun hb=>?_) (fun hb=>?_)))
  refine eM TT E [] him rfl rfl rfl (by decide) ?_
  rintro r os t1 m1 ⟨rfl,hO,hT1,hE,hm1⟩
  obtain ⟨D1,rfl,hD1,hO1⟩:=own_tupd hO hE
  dsimp only at hT1 hm1
  simp only [go_sem,↓reduceIte,a7,aA,aB,a8,reduceCtorEq]
  have d10 : Disj t1 t0:=(disj_lt (m:=m0) (fun x hx=>by have:=(hT0 x hx).2;omega) (fun x hx=>by have:=(hT1 x hx).1;omega)).symm
  have mk0:=markT_ok w (1) (by omega) (by omega)
  have mk1:=markT_ok y 1 (by omega) (by omega)
  (repeat' (first|(refine awp_markV [0,1,2,8,9,12,11] t0 (t1) mk0 hD0 (by simp [DV.er,er_encT]) rfl rfl hO0 (by intro t ht;simp [ht]) (by intro t ht;simp only [List.mem_append] at ht ⊢;(first|exact Or.inl ht|exact Or.inr ht|(rcases ht with h|h<;>simp [h])|(rcases ht with h|h|h<;>simp [h])|(rcases ht with h|h|h|h<;>simp [h])|simp [ht])) (d10) rfl ⟨hp0,trivial,trivial,hp1,trivial,trivial,keep_own hO1 (by intro t ht;simp [ht]),trivial⟩ trivial rfl rfl ?_)|(refine awp_markV [0,1,2,8,9,12] t1 [] mk1 hD1 (by simp [DV.er,er_encT]) rfl rfl hO1 (by intro t ht;simp [ht]) (by simp) (by intro t ht;simp at ht) rfl ⟨hp0,trivial,trivial,hp1,trivial,trivial,trivial⟩ trivial rfl rfl ?_)|with_reducible (first|refine bC ?_|refine b7 ?_|refine bB ?_|refine bA ?_|refine bD ?_|refine aR ?_|refine b6 ?_|refine aX ?_|refine aO ?_|refine aY ?_|refine aU ?_|refine aZ rfl ?_|(refine hK _ ?_;clear K hK)|refine b4 rfl ?_|refine b5 rfl ?_|intro hfact)|(with_reducible refine And.intro ?_ ?_;focus (first|assumption|omega|(simp;done)|((repeat' apply And.intro)<;>first|assumption|omega)|((repeat' split)<;>omega)))|((first|with_reducible (first|((refine b9 TT ?_);intro K hK)|((refine aW TT ?_);intro K hK)|((refine b8 TT [] MX (by kernel_rfl) (by kernel_rfl) ?_);intro K hK)|((refine aT TT [] MX (by kernel_rfl) (by kernel_rfl) ?_);intro K hK))|(with_reducible (first|refine aP TT E (fun hb=>?_) (fun hb=>?_)|refine aQ TT E (fun hb=>?_) (fun hb=>?_)|refine aM TT _ _ (fun hb=>?_) (fun hb=>?_)|refine aN TT _ _ (fun hb=>?_) (fun hb=>?_))<;>try simp only [hb])|((first|refine aV TT E (e7 w hw) rfl rfl ?_|refine aS TT _ _ (e7 w hw) rfl rfl ?_);intro m hm;try dsimp only at hm)|((first|refine aV TT E (hip) rfl rfl ?_|refine aS TT _ _ (hip) rfl rfl ?_);intro m hm;try dsimp only at hm)|((first|refine aV TT E (heldT_ok y 1 (by omega) (by omega)) rfl rfl ?_|refine aS TT _ _ (heldT_ok y 1 (by omega) (by omega)) rfl rfl ?_);intro m hm;try dsimp only at hm)|((first|refine aV TT E (sleave_ok _ _ _) rfl rfl ?_|refine aS TT _ _ (sleave_ok _ _ _) rfl rfl ?_);intro m hm;try dsimp only at hm)|(refine cA TT E (szThingS_ok _ _ (by first|assumption|omega|(refine (?_ : (0 : Int) ≤ _ → _) ?_<;>first|assumption|omega)|(simp;done)|(simp;omega)) (by first|assumption|omega|(refine (?_ : (0 : Int) ≤ _ → _) ?_<;>first|assumption|omega)|(simp;done)|(simp;omega))) rfl ?_;rintro _ m ⟨sz,rfl,hsz1,hsz2,hsz3⟩ hm)|((first|refine aV TT E (e7 _ (by first|assumption|omega|(refine (?_ : (0 : Int) ≤ _ → _) ?_<;>first|assumption|omega)|(simp;done)|(simp;omega))) rfl rfl ?_|refine aS TT _ _ (e7 _ (by first|assumption|omega|(refine (?_ : (0 : Int) ≤ _ → _) ?_<;>first|assumption|omega)|(simp;done)|(simp;omega))) rfl rfl ?_);intro m hm;try dsimp only at hm)|((first|refine aV TT E (eqThingS_ok _) rfl rfl ?_|refine aS TT _ _ (eqThingS_ok _) rfl rfl ?_);intro m hm;try dsimp only at hm)|((first|refine aV TT E (heldT_ok _ _ (by first|assumption|omega|(refine (?_ : (0 : Int) ≤ _ → _) ?_<;>first|assumption|omega)|(simp;done)|(simp;omega)) (by first|assumption|omega|(refine (?_ : (0 : Int) ≤ _ → _) ?_<;>first|assumption|omega)|(simp;done)|(simp;omega))) rfl rfl ?_|refine aS TT _ _ (heldT_ok _ _ (by first|assumption|omega|(refine (?_ : (0 : Int) ≤ _ → _) ?_<;>first|assumption|omega)|(simp;done)|(simp;omega)) (by first|assumption|omega|(refine (?_ : (0 : Int) ≤ _ → _) ?_<;>first|assumption|omega)|(simp;done)|(simp;omega))) rfl rfl ?_);intro m hm;try dsimp only at hm))<;>simp only [go_sem,↓reduceIte,aG,aH,a7,aA,aC,aD,aB,aE,a8,reduceCtorEq,aF,aI,aJ,aK,aL,hD0,hD1,bne_self_eq_false])|refine bQ rfl (fun hb=>?_) (fun hb=>?_)|refine bP rfl (fun hb=>?_) (fun hb=>?_)|refine bH rfl (fun hb=>?_) (fun hb=>?_)))
  all_goals first|exact QB_ret rfl|(exfalso;simp at *;omega)
end Go.Proofs.Ytdfbaedkcfhdfaa
