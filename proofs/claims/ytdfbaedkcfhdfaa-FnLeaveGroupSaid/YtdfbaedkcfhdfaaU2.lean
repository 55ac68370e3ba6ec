import Derived.Test.YtdfbaedkcfhdfaaU1
open Int renaming reduceToNat → aF,reduceBEq → aG,reduceBNe → aH,reduceNeg → aI,reduceEq → aJ,reduceLE → aK,reduceLT → aL
open Nat renaming reduceEqDiff → a7,reduceLeDiff → a8,reduceAdd → aA,reduceLT → aB,reduceMul → aC,reduceSub → aD,reduceBEq → aE
namespace Go.Proofs.Ytdfbaedkcfhdfaa
open Go Go.AL
set_option linter.unusedSimpArgs false
set_option linter.unusedVariables false
def filtG (g : Int) (l : List Int) : List Int:=l.filter fun x=>decide (x < g)
def insG (g : Int) (l : List Int) : List Int:=filtG g l ++ [g] ++ l.drop (filtG g l).length
def joinB (w : List Thing) (t g : Int) : Option (List Thing) :=
  if worldB w && inB t 0 ((w.length : Int) - 1) && inB g 0 (t - 1) then
    match w[t.toNat]? with
    | some x=>if g ∈ x.groups then none else some (w.set t.toNat ⟨insG g x.groups,x.fields⟩)
    | none=>none
  else none
def joinA (o : Option (List Thing)) : AV:=match o with
  | some w=>.tup [LT w,.d (.bool true)]
  | none=>.tup [LT [],.d (.bool false)]
theorem filtG_0 (g : Int) : filtG g [] = []:=rfl
theorem filtG_len (g : Int) (l : List Int) : (filtG g l).length ≤ l.length:=List.length_filter_le _ _
theorem filtG_snoc (g : Int) (l : List Int) (y : Int) : filtG g (l ++ [y]) = filtG g l ++ (if y < g then [y] else []):=by
  unfold filtG
  rw [List.filter_append]
  by_cases h : y < g<;>simp [h]
theorem c7 (w : List Thing) (t g : Int) : Gives Try.prog 25 [LT w,I t,I g] (joinA (joinB w t g)):=by
  refine AC.erR ?_
  refine bE TT Try.call25 Try.func25 rfl (by simp [Try.ntmps25]) (by kernel_rfl) fun E hk=>?_
  cases h0 : worldB w
  · (repeat' (first|with_reducible (first|refine bC ?_|refine b6 ?_|refine b9 ?_|refine bA ?_|refine bD ?_|refine aT ?_|refine b8 ?_|refine aY ?_|refine aS ?_|refine b5 ?_|refine aU ?_|refine b4 rfl ?_|(refine hK _ ?_;clear K hK)|refine aZ rfl ?_|refine aX rfl ?_|intro hfact)|(with_reducible refine And.intro ?_ ?_;focus (first|assumption|omega|(simp;done)|((repeat' apply And.intro)<;>first|assumption|omega)|((repeat' split)<;>omega)))|((first|with_reducible (first|((refine bB TT ?_);intro K hK)|((refine aW TT ?_);intro K hK)|((refine b7 TT [] MX (by kernel_rfl) (by kernel_rfl) ?_);intro K hK)|((refine aV TT [] MX (by kernel_rfl) (by kernel_rfl) ?_);intro K hK))|(with_reducible (first|refine aR TT E (fun hb=>?_) (fun hb=>?_)|refine aQ TT E (fun hb=>?_) (fun hb=>?_)|refine aO TT _ _ (fun hb=>?_) (fun hb=>?_)|refine aP TT _ _ (fun hb=>?_) (fun hb=>?_))<;>try simp only [hb])|((first|refine aN TT E (bZ _) rfl rfl ?_|refine aM TT _ _ (bZ _) rfl rfl ?_);intro m hm;try dsimp only at hm)|((first|refine aN TT E (bI _ _ _) rfl rfl ?_|refine aM TT _ _ (bI _ _ _) rfl rfl ?_);intro m hm;try dsimp only at hm))<;>simp only [go_sem,↓reduceIte,aG,aH,a7,aA,aC,aD,aB,aE,a8,reduceCtorEq,aF,aI,aJ,aK,aL,h0])))
    refine cQ TT (by simp only [go_sem,↓reduceIte,a7,aA,aB,a8,reduceCtorEq,Try.results25];rfl) rfl ?_;simp [resV,joinA,joinB,h0,AV.erR,AV.er,DV.er,erLL]
  have hw7:=dR h0
  have hw1 : IntKind.i64.wrap ((w.length : Int) - 1) = (w.length : Int) - 1:=bT (by omega)
  cases h1 : inB t 0 ((w.length : Int) - 1)
  · (repeat' (first|with_reducible (first|refine bC ?_|refine b6 ?_|refine b9 ?_|refine bA ?_|refine bD ?_|refine aT ?_|refine b8 ?_|refine aY ?_|refine aS ?_|refine b5 ?_|refine aU ?_|refine b4 rfl ?_|(refine hK _ ?_;clear K hK)|refine aZ rfl ?_|refine aX rfl ?_|intro hfact)|(with_reducible refine And.intro ?_ ?_;focus (first|assumption|omega|(simp;done)|((repeat' apply And.intro)<;>first|assumption|omega)|((repeat' split)<;>omega)))|((first|with_reducible (first|((refine bB TT ?_);intro K hK)|((refine aW TT ?_);intro K hK)|((refine b7 TT [] MX (by kernel_rfl) (by kernel_rfl) ?_);intro K hK)|((refine aV TT [] MX (by kernel_rfl) (by kernel_rfl) ?_);intro K hK))|(with_reducible (first|refine aR TT E (fun hb=>?_) (fun hb=>?_)|refine aQ TT E (fun hb=>?_) (fun hb=>?_)|refine aO TT _ _ (fun hb=>?_) (fun hb=>?_)|refine aP TT _ _ (fun hb=>?_) (fun hb=>?_))<;>try simp only [hb])|((first|refine aN TT E (bZ _) rfl rfl ?_|refine aM TT _ _ (bZ _) rfl rfl ?_);intro m hm;try dsimp only at hm)|((first|refine aN TT E (bI _ _ _) rfl rfl ?_|refine aM TT _ _ (bI _ _ _) rfl rfl ?_);intro m hm;try dsimp only at hm))<;>simp only [go_sem,↓reduceIte,aG,aH,a7,aA,aC,aD,aB,aE,a8,reduceCtorEq,aF,aI,aJ,aK,aL,h0,h1,hw1])))
    refine cQ TT (by simp only [go_sem,↓reduceIte,a7,aA,aB,a8,reduceCtorEq,Try.results25];rfl) rfl ?_;simp [resV,joinA,joinB,h1,AV.erR,AV.er,DV.er,erLL]
  have h1':=dP.1 h1
  have hw2 : IntKind.i64.wrap (t - 1) = t - 1:=bT (by omega)
  cases h2 : inB g 0 (t - 1)
  · (repeat' (first|with_reducible (first|refine bC ?_|refine b6 ?_|refine b9 ?_|refine bA ?_|refine bD ?_|refine aT ?_|refine b8 ?_|refine aY ?_|refine aS ?_|refine b5 ?_|refine aU ?_|refine b4 rfl ?_|(refine hK _ ?_;clear K hK)|refine aZ rfl ?_|refine aX rfl ?_|intro hfact)|(with_reducible refine And.intro ?_ ?_;focus (first|assumption|omega|(simp;done)|((repeat' apply And.intro)<;>first|assumption|omega)|((repeat' split)<;>omega)))|((first|with_reducible (first|((refine bB TT ?_);intro K hK)|((refine aW TT ?_);intro K hK)|((refine b7 TT [] MX (by kernel_rfl) (by kernel_rfl) ?_);intro K hK)|((refine aV TT [] MX (by kernel_rfl) (by kernel_rfl) ?_);intro K hK))|(with_reducible (first|refine aR TT E (fun hb=>?_) (fun hb=>?_)|refine aQ TT E (fun hb=>?_) (fun hb=>?_)|refine aO TT _ _ (fun hb=>?_) (fun hb=>?_)|refine aP TT _ _ (fun hb=>?_) (fun hb=>?_))<;>try simp only [hb])|((first|refine aN TT E (bZ _) rfl rfl ?_|refine aM TT _ _ (bZ _) rfl rfl ?_);intro m hm;try dsimp only at hm)|((first|refine aN TT E (bI _ _ _) rfl rfl ?_|refine aM TT _ _ (bI _ _ _) rfl rfl ?_);intro m hm;try dsimp only at hm))<;>simp only [go_sem,↓reduceIte,aG,aH,a7,aA,aC,aD,aB,aE,a8,reduceCtorEq,aF,aI,aJ,aK,aL,h0,h1,h2,hw1,hw2])))
    refine cQ TT (by simp only [go_sem,↓reduceIte,a7,aA,aB,a8,reduceCtorEq,Try.results25];rfl) rfl ?_;simp [resV,joinA,joinB,h2,AV.erR,AV.er,DV.er,erLL]
  obtain ⟨tn,rfl⟩ : ∃ tn : Nat,t = tn:=⟨t.toNat,by omega⟩
  have htl : tn < w.length:=by omega
  obtain ⟨x,hx⟩ : ∃ x,w[tn]? = some x:=⟨w[tn],by simp [htl]⟩
  have hT : At w w.length tn x (w.drop (tn + 1)):=⟨rfl,htl,by rw [List.drop_eq_getElem_cons htl];congr 1;exact Option.some.inj (by rw [← hx];simp [htl]),by omega⟩
  have hsm:=smallW_of h0
  have hxs:=hsm.2 x hT.mem
  (repeat' (first|(refine dF TT E [] (l20wO w hsm) rfl rfl rfl (by decide) ?_;rintro r os t1 m1 ⟨X,us,own,rfl,rfl,rfl,hX,hg⟩;simp only [go_sem,↓reduceIte,a7,aA,aB,a8,reduceCtorEq])|with_reducible (first|refine bC ?_|refine b6 ?_|refine b9 ?_|refine bA ?_|refine bD ?_|refine aT ?_|refine b8 ?_|refine aY ?_|refine aS ?_|refine b5 ?_|refine aU ?_|refine b4 rfl ?_|(refine hK _ ?_;clear K hK)|refine aZ rfl ?_|refine aX rfl ?_|intro hfact)|(with_reducible refine And.intro ?_ ?_;focus (first|assumption|omega|(simp;done)|((repeat' apply And.intro)<;>first|assumption|omega)|((repeat' split)<;>omega)))|((first|with_reducible (first|((refine bB TT ?_);intro K hK)|((refine aW TT ?_);intro K hK)|((refine b7 TT [] MX (by kernel_rfl) (by kernel_rfl) ?_);intro K hK)|((refine aV TT [] MX (by kernel_rfl) (by kernel_rfl) ?_);intro K hK))|(with_reducible (first|refine aR TT E (fun hb=>?_) (fun hb=>?_)|refine aQ TT E (fun hb=>?_) (fun hb=>?_)|refine aO TT _ _ (fun hb=>?_) (fun hb=>?_)|refine aP TT _ _ (fun hb=>?_) (fun hb=>?_))<;>try simp only [hb])|((first|refine aN TT E (bZ _) rfl rfl ?_|refine aM TT _ _ (bZ _) rfl rfl ?_);intro m hm;try dsimp only at hm)|((first|refine aN TT E (bI _ _ _) rfl rfl ?_|refine aM TT _ _ (bI _ _ _) rfl rfl ?_);intro m hm;try dsimp only at hm))<;>simp only [go_sem,↓reduceIte,aG,aH,a7,aA,aC,aD,aB,aE,a8,reduceCtorEq,aF,aI,aJ,aK,aL,h0,h1,h2,hw1,hw2])))
  have hXl : X.length = w.length:=by
    have h9:=congrArg List.length hX
    rw [c8,List.length_map,List.length_map] at h9
    exact h9
  obtain ⟨g1,g2,g3,g4,g5⟩:=hg
  rcases g3 with ⟨rfl,hn⟩|⟨u,rfl,hu1,hu2⟩
  · rw [hn] at hXl;simp at hXl;omega
  refine awp_lp [0,1,2,8] (fun (s : Nat × Own)=>[(9,LI (filtG g (x.groups.take s.1)) s.2),(10,I (s.1 : Nat))]) (fun obs (s : Nat × Own)=>obs) (fun (s : Nat × Own)=>u :: (us ++ tkOf s.2)) (fun (s : Nat × Own) nt=>s.1 ≤ x.groups.length ∧ (∀ z ∈ x.groups.take s.1,z ≠ g) ∧ ownLt s.2 nt ∧ (∀ z ∈ tkOf s.2,m1 ≤ z) ∧ m1 ≤ nt) (fun (s : Nat × Own)=>x.groups.length - s.1) (((0 : Nat),Own.full)) (by simp only [go_sem,↓reduceIte,a7,aA,aB,a8,reduceCtorEq];rfl) (by first|rfl|(simp only [go_sem,↓reduceIte,a7,aA,aB,a8,reduceCtorEq];rfl)) (⟨Nat.zero_le _,by simp,trivial,by simp [tkOf],by first|omega|(dsimp only;omega)⟩) (by unfold ASubW;simp only [go_sem,↓reduceIte,a7,aA,aB,a8,reduceCtorEq,hk];try simp [tkOf,LI,ST,d6,List.take_zero,filtG_0]) ?_
  rintro ⟨k,own⟩ nt ⟨hk0,hne,hown,hom,hmn⟩
  dsimp only at hk0 hne hown hom ⊢
  have hfl:=filtG_len g (x.groups.take k)
  have hfl2 : (filtG g (x.groups.take k)).length ≤ k:=by simp at hfl;omega
  have ho : ownOK own (u :: (us ++ tkOf own)):=dS hown (fun t h=>by simp [h])
  by_cases hkl : k < x.groups.length
  · have hd : decide ((k : Int) < (x.groups.length : Int)) = true:=by simp;omega
    have hw : IntKind.i64.wrap ((k : Int) + 1) = ((k + 1 : Nat) : Int):=by rw [bT (by omega)];rfl
    obtain ⟨y,hy⟩ : ∃ y,x.groups[k]? = some y:=⟨x.groups[k],by simp [hkl]⟩
    have hA : At x.groups x.groups.length k y (x.groups.drop (k + 1)):=⟨rfl,hkl,by rw [List.drop_eq_getElem_cons hkl];congr 1;exact Option.some.inj (by rw [← hy];simp [hkl]),by omega⟩
    by_cases hyg : y = g
    · have hb : (y == g) = true:=by simp [hyg]
      (repeat' (first|with_reducible (first|refine bC ?_|refine b6 ?_|refine b9 ?_|refine bA ?_|refine bD ?_|refine aT ?_|refine b8 ?_|refine aY ?_|refine aS ?_|refine b5 ?_|refine aU ?_|refine b4 rfl ?_|(refine hK _ ?_;clear K hK)|refine aZ rfl ?_|refine aX rfl ?_|intro hfact)|(with_reducible refine And.intro ?_ ?_;focus (first|assumption|omega|(simp;done)|((repeat' apply And.intro)<;>first|assumption|omega)|((repeat' split)<;>omega)))|((first|with_reducible (first|((refine bB TT ?_);intro K hK)|((refine aW TT ?_);intro K hK)|((refine b7 TT [] MX (by kernel_rfl) (by kernel_rfl) ?_);intro K hK)|((refine aV TT [] MX (by kernel_rfl) (by kernel_rfl) ?_);intro K hK))|(with_reducible (first|refine aR TT E (fun hb=>?_) (fun hb=>?_)|refine aQ TT E (fun hb=>?_) (fun hb=>?_)|refine aO TT _ _ (fun hb=>?_) (fun hb=>?_)|refine aP TT _ _ (fun hb=>?_) (fun hb=>?_))<;>try simp only [hb])|((first|refine aN TT E (bZ _) rfl rfl ?_|refine aM TT _ _ (bZ _) rfl rfl ?_);intro m hm;try dsimp only at hm)|((first|refine aN TT E (bI _ _ _) rfl rfl ?_|refine aM TT _ _ (bI _ _ _) rfl rfl ?_);intro m hm;try dsimp only at hm))<;>simp only [go_sem,↓reduceIte,aG,aH,a7,aA,aC,aD,aB,aE,a8,reduceCtorEq,aF,aI,aJ,aK,aL,hd,hw,hT.g,encT,hA.g,encI,hb])))
      have hmem : g ∈ x.groups:=by rw [← hyg];exact hA.mem
      refine cQ TT (by simp only [go_sem,↓reduceIte,a7,aA,aB,a8,reduceCtorEq,Try.results25];rfl) rfl ?_;simp [resV,joinA,joinB,h0,h1,h2,hx,hmem,AV.erR,AV.er,DV.er,erLL]
    · have hb : (y == g) = false:=by simp [hyg]
      have hne2 : ∀ z ∈ x.groups.take (k + 1),z ≠ g:=by
        rw [hA.snoc]
        intro z hz
        rcases List.mem_append.1 hz with h|h
        · exact hne z h
        · simp at h;rw [h];exact hyg
      by_cases hlt : y < g
      · have hs : filtG g (x.groups.take (k + 1)) = filtG g (x.groups.take k) ++ [y]:=by rw [hA.snoc,filtG_snoc,if_pos hlt]
        have hdl : decide (y < g) = true:=by simp [hlt]
        (repeat' (first|with_reducible (first|refine bC ?_|refine b6 ?_|refine b9 ?_|refine bA ?_|refine bD ?_|refine aT ?_|refine b8 ?_|refine aY ?_|refine aS ?_|refine b5 ?_|refine aU ?_|refine b4 rfl ?_|(refine hK _ ?_;clear K hK)|refine aZ rfl ?_|refine aX rfl ?_|intro hfact)|(with_reducible refine And.intro ?_ ?_;focus (first|assumption|omega|(simp;done)|((repeat' apply And.intro)<;>first|assumption|omega)|((repeat' split)<;>omega)))|((first|with_reducible (first|((refine bB TT ?_);intro K hK)|((refine aW TT ?_);intro K hK)|((refine b7 TT [] MX (by kernel_rfl) (by kernel_rfl) ?_);intro K hK)|((refine aV TT [] MX (by kernel_rfl) (by kernel_rfl) ?_);intro K hK))|(with_reducible (first|refine aR TT E (fun hb=>?_) (fun hb=>?_)|refine aQ TT E (fun hb=>?_) (fun hb=>?_)|refine aO TT _ _ (fun hb=>?_) (fun hb=>?_)|refine aP TT _ _ (fun hb=>?_) (fun hb=>?_))<;>try simp only [hb])|((first|refine aN TT E (bZ _) rfl rfl ?_|refine aM TT _ _ (bZ _) rfl rfl ?_);intro m hm;try dsimp only at hm)|((first|refine aN TT E (bI _ _ _) rfl rfl ?_|refine aM TT _ _ (bI _ _ _) rfl rfl ?_);intro m hm;try dsimp only at hm))<;>simp only [go_sem,↓reduceIte,aG,aH,a7,aA,aC,aD,aB,aE,a8,reduceCtorEq,aF,aI,aJ,aK,aL,hd,hw,hT.g,encT,hA.g,encI,hb,hdl])))
        have htk : ∀ z ∈ u :: (us ++ tkOf (.tok nt)),z ∈ nt :: cR own (u :: (us ++ tkOf own)):=by
          intro z hz
          simp only [tkOf,List.mem_cons,List.mem_append,List.not_mem_nil,or_false] at hz
          rcases hz with rfl|hz|rfl
          · exact List.mem_cons_of_mem _ (cF (by simp) fun hin=>by have:=hom _ hin;omega)
          · exact List.mem_cons_of_mem _ (cF (by simp [hz]) fun hin=>by have:=hom _ hin;have:=(g2 _ hz).2;omega)
          · simp
        refine ⟨(k + 1,.tok nt),⟨by dsimp only;omega,hne2,dK,by simp [tkOf];omega,by dsimp only;omega⟩,by dsimp only;omega,?_⟩
        refine ⟨?_,?_,?_,htk,?_⟩<;>(simp only [go_sem,↓reduceIte,a7,aA,aB,a8,reduceCtorEq,hk,ST,LI,hs,List.map_append,encI];try simp)
      · have hs : filtG g (x.groups.take (k + 1)) = filtG g (x.groups.take k):=by rw [hA.snoc,filtG_snoc,if_neg hlt,List.append_nil]
        have hdl : decide (y < g) = false:=by simp [hlt]
        (repeat' (first|with_reducible (first|refine bC ?_|refine b6 ?_|refine b9 ?_|refine bA ?_|refine bD ?_|refine aT ?_|refine b8 ?_|refine aY ?_|refine aS ?_|refine b5 ?_|refine aU ?_|refine b4 rfl ?_|(refine hK _ ?_;clear K hK)|refine aZ rfl ?_|refine aX rfl ?_|intro hfact)|(with_reducible refine And.intro ?_ ?_;focus (first|assumption|omega|(simp;done)|((repeat' apply And.intro)<;>first|assumption|omega)|((repeat' split)<;>omega)))|((first|with_reducible (first|((refine bB TT ?_);intro K hK)|((refine aW TT ?_);intro K hK)|((refine b7 TT [] MX (by kernel_rfl) (by kernel_rfl) ?_);intro K hK)|((refine aV TT [] MX (by kernel_rfl) (by kernel_rfl) ?_);intro K hK))|(with_reducible (first|refine aR TT E (fun hb=>?_) (fun hb=>?_)|refine aQ TT E (fun hb=>?_) (fun hb=>?_)|refine aO TT _ _ (fun hb=>?_) (fun hb=>?_)|refine aP TT _ _ (fun hb=>?_) (fun hb=>?_))<;>try simp only [hb])|((first|refine aN TT E (bZ _) rfl rfl ?_|refine aM TT _ _ (bZ _) rfl rfl ?_);intro m hm;try dsimp only at hm)|((first|refine aN TT E (bI _ _ _) rfl rfl ?_|refine aM TT _ _ (bI _ _ _) rfl rfl ?_);intro m hm;try dsimp only at hm))<;>simp only [go_sem,↓reduceIte,aG,aH,a7,aA,aC,aD,aB,aE,a8,reduceCtorEq,aF,aI,aJ,aK,aL,hd,hw,hT.g,encT,hA.g,encI,hb,hdl])))
        refine ⟨(k + 1,own),⟨by dsimp only;omega,hne2,bX hown (by dsimp only;omega),hom,by dsimp only;omega⟩,by dsimp only;omega,(by unfold ASubW;simp only [go_sem,↓reduceIte,a7,aA,aB,a8,reduceCtorEq,hk,LI,ST,hs];try simp)⟩
  · have hd : decide ((k : Int) < (x.groups.length : Int)) = false:=by simp;omega
    have hke : k = x.groups.length:=by omega
    obtain ⟨el,hel⟩ : ∃ el,X[tn]? = some el:=⟨X[tn]'(by omega),by simp [hXl,htl]⟩
    have hel2 : erL el = encT x:=by
      have h1:=erLL_get hel
      rw [hX,List.getElem?_map,hx] at h1
      exact (Option.some.inj h1).symm
    obtain ⟨u1,te,u2,rfl,du1,du2,du3,hte,hset⟩:=ownLL_set g1 hel
    (repeat' (first|((refine awp_seqrLk TT [] [] MX 17 0 1 15 16 [] rfl rfl rfl rfl rfl (by kernel_rfl) (by kernel_rfl) (by kernel_rfl) (by kernel_rfl) (by kernel_rfl) rfl rfl rfl rfl rfl rfl (by decide) rfl rfl hk rfl rfl (by simp) hel (by decide) ?_;intro K hK;simp only [List.take_succ_cons,List.take_zero];simp only [go_sem,↓reduceIte,a7,aA,aB,a8,reduceCtorEq,hd,hT.g,encT,List.length_append,List.length_map,List.length_cons,List.length_nil,List.length_take,List.length_drop,List.mem_cons_self,true_and]))|with_reducible (first|refine bC ?_|refine b6 ?_|refine b9 ?_|refine bA ?_|refine bD ?_|refine aT ?_|refine b8 ?_|refine aY ?_|refine aS ?_|refine b5 ?_|refine aU ?_|refine b4 rfl ?_|(refine hK _ ?_;clear K hK)|refine aZ rfl ?_|refine aX rfl ?_|intro hfact)|(with_reducible refine And.intro ?_ ?_;focus (first|assumption|omega|(simp;done)|((repeat' apply And.intro)<;>first|assumption|omega)|((repeat' split)<;>omega)))|((first|with_reducible (first|((refine bB TT ?_);intro K hK)|((refine aW TT ?_);intro K hK)|((refine b7 TT [] MX (by kernel_rfl) (by kernel_rfl) ?_);intro K hK)|((refine aV TT [] MX (by kernel_rfl) (by kernel_rfl) ?_);intro K hK))|(with_reducible (first|refine aR TT E (fun hb=>?_) (fun hb=>?_)|refine aQ TT E (fun hb=>?_) (fun hb=>?_)|refine aO TT _ _ (fun hb=>?_) (fun hb=>?_)|refine aP TT _ _ (fun hb=>?_) (fun hb=>?_))<;>try simp only [hb])|((first|refine aN TT E (bZ _) rfl rfl ?_|refine aM TT _ _ (bZ _) rfl rfl ?_);intro m hm;try dsimp only at hm)|((first|refine aN TT E (bI _ _ _) rfl rfl ?_|refine aM TT _ _ (bI _ _ _) rfl rfl ?_);intro m hm;try dsimp only at hm))<;>simp only [go_sem,↓reduceIte,aG,aH,a7,aA,aC,aD,aB,aE,a8,reduceCtorEq,aF,aI,aJ,aK,aL,hd,hT.g,encT,List.length_append,List.length_map,List.length_cons,List.length_nil,List.length_take,List.length_drop,List.mem_cons_self,true_and])))
    obtain ⟨c0,c1,rfl,hc1⟩ : ∃ c0 c1,el = [c0,c1] ∧ c1.er = .sl 3 (x.fields.map encF) .no:=by
      rw [encT] at hel2
      match el,hel2 with
      | [c0,c1],h=>simp only [erL,List.cons.injEq,and_true] at h;exact ⟨c0,c1,rfl,h.2⟩
      | [],h=>simp [erL] at h
      | [_],h=>simp [erL] at h
      | _ :: _ :: _ :: _,h=>simp [erL] at h
    simp only [ownL] at hte
    obtain ⟨t0,t2,rfl,dt,ho0,t3,t4,rfl,dt2,ho1,rfl⟩:=hte
    have htk : List.take k x.groups = x.groups:=by rw [hke,List.take_length]
    have hys : List.map encI (filtG g (List.take k x.groups)) ++ [List.take 1 (layL [DV.int IntKind.i64 0] (0 * 1) [DV.int IntKind.i64 g])] ++ List.take (x.groups.length - (filtG g (List.take k x.groups)).length) (List.drop (filtG g (List.take k x.groups)).length (List.map encI x.groups)) = (insG g x.groups).map encI:=by
      have e9 : List.take (x.groups.length - (filtG g x.groups).length) (List.drop (filtG g x.groups).length (List.map encI x.groups)) = List.drop (filtG g x.groups).length (List.map encI x.groups):=List.take_of_length_le (by simp)
      rw [htk,e9,insG,List.map_append,List.map_append,List.map_drop]
      rfl
    have hlt1 : ∀ z ∈ u1 ++ (t0 ++ (t3 ++ []) ++ u2),z < m1 ∧ z ≠ u:=fun z hz=>⟨(g2 z hz).2,fun e=>g4 u (by simp [tkOf]) (e ▸ hz)⟩
    have hin : ∀ z,z < m1 → z ∈ u :: (u1 ++ (t0 ++ (t3 ++ []) ++ u2) ++ tkOf own) → z ∈ (nt + 1) :: List.filter (fun x=>x != nt) (nt :: cR own (u :: (u1 ++ (t0 ++ (t3 ++ []) ++ u2) ++ tkOf own))):=fun z hz hm=>by
      refine List.mem_cons_of_mem _ (List.mem_filter.2 ⟨List.mem_cons_of_mem _ (cF hm fun hin=>by have:=hom z hin;omega),?_⟩)
      simp;omega
    rw [hys]
    refine ⟨⟨_,u1 ++ (([nt + 1] ++ t3) ++ u2),_,rfl,rfl,hset [.sl 1 ((insG g x.groups).map encI) (.tok (nt + 1)),c1] _ (eB (d8 (by simp) (dB (fun _=>rfl) _)) (eO ho1) ?_) ?_ ?_,?_,?_,rfl,rfl,?_⟩⟩
    · intro z hz hz2
      simp at hz
      have:=(hlt1 z (by simp [hz2])).1
      omega
    · intro z hz hz2
      rcases List.mem_append.1 hz2 with h|h
      · simp at h
        have:=(hlt1 z (by simp [hz])).1
        omega
      · exact du1 z hz (by simp [h])
    · intro z hz hz2
      rcases List.mem_append.1 hz with h|h
      · simp at h
        have:=(hlt1 z (by simp [hz2])).1
        omega
      · exact du3 z (by simp [h]) hz2
    · intro z hz
      simp only [List.mem_append,List.mem_cons,List.not_mem_nil,or_false] at hz
      by_cases hzn : z = nt + 1
      · subst hzn;exact ⟨by simp,by omega⟩
      · have hmm : z ∈ u1 ++ (t0 ++ (t3 ++ []) ++ u2):=by
          rcases hz with h|(h|h)|h
          · simp [h]
          · exact absurd h hzn
          · simp [h]
          · simp [h]
        exact ⟨hin z (hlt1 z hmm).1 (List.mem_cons_of_mem _ (List.mem_append.2 (.inl hmm))),(hlt1 z hmm).2⟩
    · exact hin u hu2 (by simp)
    · (repeat' (first|with_reducible (first|refine bC ?_|refine b6 ?_|refine b9 ?_|refine bA ?_|refine bD ?_|refine aT ?_|refine b8 ?_|refine aY ?_|refine aS ?_|refine b5 ?_|refine aU ?_|refine b4 rfl ?_|(refine hK _ ?_;clear K hK)|refine aZ rfl ?_|refine aX rfl ?_|intro hfact)|(with_reducible refine And.intro ?_ ?_;focus (first|assumption|omega|(simp;done)|((repeat' apply And.intro)<;>first|assumption|omega)|((repeat' split)<;>omega)))|((first|with_reducible (first|((refine bB TT ?_);intro K hK)|((refine aW TT ?_);intro K hK)|((refine b7 TT [] MX (by kernel_rfl) (by kernel_rfl) ?_);intro K hK)|((refine aV TT [] MX (by kernel_rfl) (by kernel_rfl) ?_);intro K hK))|(with_reducible (first|refine aR TT E (fun hb=>?_) (fun hb=>?_)|refine aQ TT E (fun hb=>?_) (fun hb=>?_)|refine aO TT _ _ (fun hb=>?_) (fun hb=>?_)|refine aP TT _ _ (fun hb=>?_) (fun hb=>?_))<;>try simp only [hb])|((first|refine aN TT E (bZ _) rfl rfl ?_|refine aM TT _ _ (bZ _) rfl rfl ?_);intro m hm;try dsimp only at hm)|((first|refine aN TT E (bI _ _ _) rfl rfl ?_|refine aM TT _ _ (bI _ _ _) rfl rfl ?_);intro m hm;try dsimp only at hm))<;>simp only [go_sem,↓reduceIte,aG,aH,a7,aA,aC,aD,aB,aE,a8,reduceCtorEq,aF,aI,aJ,aK,aL])))
      refine cQ TT (by simp only [go_sem,↓reduceIte,a7,aA,aB,a8,reduceCtorEq,Try.results25];rfl) rfl ?_
      have hmem : g ∉ x.groups:=fun h=>hne g (by rw [htk];exact h) rfl
      simp [resV,joinA,joinB,h0,h1,h2,hx,hmem,AV.erR,AV.er,DV.er,erLL_set,hX,List.map_set,erL,hc1,eX,encT]
end Go.Proofs.Ytdfbaedkcfhdfaa
