import Derived.Test.YtdfbaedkcfhdfaaU7
open Int renaming reduceToNat → aF,reduceBEq → aG,reduceBNe → aH,reduceNeg → aI,reduceEq → aJ,reduceLE → aK,reduceLT → aL
open Nat renaming reduceEqDiff → a7,reduceLeDiff → a8,reduceAdd → aA,reduceLT → aB,reduceMul → aC,reduceSub → aD,reduceBEq → aE
namespace Go.Proofs.Ytdfbaedkcfhdfaa
open Go Go.AL
set_option linter.unusedSimpArgs false
set_option linter.unusedVariables false
theorem bY (w : List Thing) (t g : Int) : Gives Try.prog 13 [LT w,I t,I g] (joinA (leaveB w t g)):=by
  refine AC.erR ?_
  refine bE TT Try.call13 Try.func13 rfl (by simp [Try.ntmps13]) (by kernel_rfl) fun E hk=>?_
  cases h0 : worldB w
  · (repeat' (first|with_reducible (first|refine bC ?_|refine b6 ?_|refine b9 ?_|refine bA ?_|refine bD ?_|refine aT ?_|refine b8 ?_|refine aY ?_|refine aS ?_|refine b5 ?_|refine aU ?_|refine b4 rfl ?_|(refine hK _ ?_;clear K hK)|refine aZ rfl ?_|refine aX rfl ?_|intro hfact)|(with_reducible refine And.intro ?_ ?_;focus (first|assumption|omega|(simp;done)|((repeat' apply And.intro)<;>first|assumption|omega)|((repeat' split)<;>omega)))|((first|with_reducible (first|((refine bB TT ?_);intro K hK)|((refine aW TT ?_);intro K hK)|((refine b7 TT [] MX (by kernel_rfl) (by kernel_rfl) ?_);intro K hK)|((refine aV TT [] MX (by kernel_rfl) (by kernel_rfl) ?_);intro K hK))|(with_reducible (first|refine aR TT E (fun hb=>?_) (fun hb=>?_)|refine aQ TT E (fun hb=>?_) (fun hb=>?_)|refine aO TT _ _ (fun hb=>?_) (fun hb=>?_)|refine aP TT _ _ (fun hb=>?_) (fun hb=>?_))<;>try simp only [hb])|((first|refine aN TT E (bZ _) rfl rfl ?_|refine aM TT _ _ (bZ _) rfl rfl ?_);intro m hm;try dsimp only at hm)|((first|refine aN TT E (bI _ _ _) rfl rfl ?_|refine aM TT _ _ (bI _ _ _) rfl rfl ?_);intro m hm;try dsimp only at hm))<;>simp only [go_sem,↓reduceIte,aG,aH,a7,aA,aC,aD,aB,aE,a8,reduceCtorEq,aF,aI,aJ,aK,aL,h0])))
    refine cQ TT (by simp only [go_sem,↓reduceIte,a7,aA,aB,a8,reduceCtorEq,Try.results13];rfl) rfl ?_;simp [resV,joinA,leaveB,h0,AV.erR,AV.er,DV.er,erLL]
  have hw7:=dR h0
  have hw1 : IntKind.i64.wrap ((w.length : Int) - 1) = (w.length : Int) - 1:=bT (by omega)
  cases h1 : inB t 0 ((w.length : Int) - 1)
  · (repeat' (first|with_reducible (first|refine bC ?_|refine b6 ?_|refine b9 ?_|refine bA ?_|refine bD ?_|refine aT ?_|refine b8 ?_|refine aY ?_|refine aS ?_|refine b5 ?_|refine aU ?_|refine b4 rfl ?_|(refine hK _ ?_;clear K hK)|refine aZ rfl ?_|refine aX rfl ?_|intro hfact)|(with_reducible refine And.intro ?_ ?_;focus (first|assumption|omega|(simp;done)|((repeat' apply And.intro)<;>first|assumption|omega)|((repeat' split)<;>omega)))|((first|with_reducible (first|((refine bB TT ?_);intro K hK)|((refine aW TT ?_);intro K hK)|((refine b7 TT [] MX (by kernel_rfl) (by kernel_rfl) ?_);intro K hK)|((refine aV TT [] MX (by kernel_rfl) (by kernel_rfl) ?_);intro K hK))|(with_reducible (first|refine aR TT E (fun hb=>?_) (fun hb=>?_)|refine aQ TT E (fun hb=>?_) (fun hb=>?_)|refine aO TT _ _ (fun hb=>?_) (fun hb=>?_)|refine aP TT _ _ (fun hb=>?_) (fun hb=>?_))<;>try simp only [hb])|((first|refine aN TT E (bZ _) rfl rfl ?_|refine aM TT _ _ (bZ _) rfl rfl ?_);intro m hm;try dsimp only at hm)|((first|refine aN TT E (bI _ _ _) rfl rfl ?_|refine aM TT _ _ (bI _ _ _) rfl rfl ?_);intro m hm;try dsimp only at hm))<;>simp only [go_sem,↓reduceIte,aG,aH,a7,aA,aC,aD,aB,aE,a8,reduceCtorEq,aF,aI,aJ,aK,aL,h0,h1,hw1])))
    refine cQ TT (by simp only [go_sem,↓reduceIte,a7,aA,aB,a8,reduceCtorEq,Try.results13];rfl) rfl ?_;simp [resV,joinA,leaveB,h1,AV.erR,AV.er,DV.er,erLL]
  have h1':=dP.1 h1
  obtain ⟨tn,rfl⟩ : ∃ tn : Nat,t = tn:=⟨t.toNat,by omega⟩
  have htl : tn < w.length:=by omega
  obtain ⟨x,hx⟩ : ∃ x,w[tn]? = some x:=⟨w[tn],by simp [htl]⟩
  have hT : At w w.length tn x (w.drop (tn + 1)):=⟨rfl,htl,by rw [List.drop_eq_getElem_cons htl];congr 1;exact Option.some.inj (by rw [← hx];simp [htl]),by omega⟩
  have hsm:=smallW_of h0
  have hxs:=hsm.2 x hT.mem
  have hpw:=pw_asc (cW h0 hx).1
  (repeat' (first|(refine dF TT E [] (l20wO w hsm) rfl rfl rfl (by decide) ?_;rintro r os t1 m1 ⟨X,us,own,rfl,rfl,rfl,hX,hg⟩;simp only [go_sem,↓reduceIte,a7,aA,aB,a8,reduceCtorEq])|with_reducible (first|refine bC ?_|refine b6 ?_|refine b9 ?_|refine bA ?_|refine bD ?_|refine aT ?_|refine b8 ?_|refine aY ?_|refine aS ?_|refine b5 ?_|refine aU ?_|refine b4 rfl ?_|(refine hK _ ?_;clear K hK)|refine aZ rfl ?_|refine aX rfl ?_|intro hfact)|(with_reducible refine And.intro ?_ ?_;focus (first|assumption|omega|(simp;done)|((repeat' apply And.intro)<;>first|assumption|omega)|((repeat' split)<;>omega)))|((first|with_reducible (first|((refine bB TT ?_);intro K hK)|((refine aW TT ?_);intro K hK)|((refine b7 TT [] MX (by kernel_rfl) (by kernel_rfl) ?_);intro K hK)|((refine aV TT [] MX (by kernel_rfl) (by kernel_rfl) ?_);intro K hK))|(with_reducible (first|refine aR TT E (fun hb=>?_) (fun hb=>?_)|refine aQ TT E (fun hb=>?_) (fun hb=>?_)|refine aO TT _ _ (fun hb=>?_) (fun hb=>?_)|refine aP TT _ _ (fun hb=>?_) (fun hb=>?_))<;>try simp only [hb])|((first|refine aN TT E (bZ _) rfl rfl ?_|refine aM TT _ _ (bZ _) rfl rfl ?_);intro m hm;try dsimp only at hm)|((first|refine aN TT E (bI _ _ _) rfl rfl ?_|refine aM TT _ _ (bI _ _ _) rfl rfl ?_);intro m hm;try dsimp only at hm))<;>simp only [go_sem,↓reduceIte,aG,aH,a7,aA,aC,aD,aB,aE,a8,reduceCtorEq,aF,aI,aJ,aK,aL,h0,h1,hw1])))
  have hXl : X.length = w.length:=by
    have h9:=congrArg List.length hX
    rw [c8,List.length_map,List.length_map] at h9
    exact h9
  obtain ⟨g1,g2,g3,g4,g5⟩:=hg
  rcases g3 with ⟨rfl,hn⟩|⟨u,rfl,hu1,hu2⟩
  · rw [hn] at hXl;simp at hXl;omega
  refine awp_lp [0,1,2,8] (fun (k : Nat)=>[(9,I (k : Nat))]) (fun obs (k : Nat)=>obs) (fun (k : Nat)=>u :: us) (fun (k : Nat) nt=>k ≤ x.groups.length ∧ (∀ z ∈ x.groups.take k,z ≠ g) ∧ m1 ≤ nt) (fun (k : Nat)=>x.groups.length - k) ((0 : Nat)) (by simp only [go_sem,↓reduceIte,a7,aA,aB,a8,reduceCtorEq];rfl) (by first|rfl|(simp only [go_sem,↓reduceIte,a7,aA,aB,a8,reduceCtorEq];rfl)) (⟨Nat.zero_le _,by simp,by first|omega|(dsimp only;omega)⟩) (by unfold ASubW;simp only [go_sem,↓reduceIte,a7,aA,aB,a8,reduceCtorEq,hk];try simp [tkOf,ST]) ?_
  rintro k nt ⟨hk0,hne,hmn⟩
  dsimp only at hk0 hne ⊢
  by_cases hkl : k < x.groups.length
  · have hd : decide ((k : Int) < (x.groups.length : Int)) = true:=by simp;omega
    have hw : IntKind.i64.wrap ((k : Int) + 1) = ((k + 1 : Nat) : Int):=by rw [bT (by omega)];rfl
    obtain ⟨y,hy⟩ : ∃ y,x.groups[k]? = some y:=⟨x.groups[k],by simp [hkl]⟩
    have hA : At x.groups x.groups.length k y (x.groups.drop (k + 1)):=⟨rfl,hkl,by rw [List.drop_eq_getElem_cons hkl];congr 1;exact Option.some.inj (by rw [← hy];simp [hkl]),by omega⟩
    by_cases hyg : y = g
    · subst hyg
      have hmem : y ∈ x.groups:=hA.mem
      obtain ⟨el,hel⟩ : ∃ el,X[tn]? = some el:=⟨X[tn]'(by omega),by simp [hXl,htl]⟩
      have hel2 : erL el = encT x:=by
        have h1:=erLL_get hel
        rw [hX,List.getElem?_map,hx] at h1
        exact (Option.some.inj h1).symm
      obtain ⟨u1,te,u2,rfl,du1,du2,du3,hte,hset⟩:=ownLL_set g1 hel
      have hb : (y == y) = true:=by simp
      have e1 : ((k + 1 : Nat) : Int).toNat = k + 1:=by omega
      have t1 : (List.take (k - 0) (x.groups.map encI)).length = k:=by simp;omega
      (repeat' (first|((refine awp_seqrLk (id:=8) TT [] [] MX 22 0 1 20 21 [] rfl rfl rfl rfl rfl (by kernel_rfl) (by kernel_rfl) (by kernel_rfl) (by kernel_rfl) (by kernel_rfl) rfl rfl rfl rfl rfl rfl (by decide) rfl rfl hk rfl rfl (by simp) hel (by decide) ?_;intro K hK;simp only [List.take_succ_cons,List.take_zero];simp only [go_sem,↓reduceIte,a7,aA,aB,a8,reduceCtorEq,hd,hw,hT.g,encT,List.length_append,List.length_map,List.length_cons,List.length_nil,List.length_take,List.length_drop,List.mem_cons_self,true_and]))|with_reducible (first|refine bC ?_|refine b6 ?_|refine b9 ?_|refine bA ?_|refine bD ?_|refine aT ?_|refine b8 ?_|refine aY ?_|refine aS ?_|refine b5 ?_|refine aU ?_|refine b4 rfl ?_|(refine hK _ ?_;clear K hK)|refine aZ rfl ?_|refine aX rfl ?_|intro hfact)|(with_reducible refine And.intro ?_ ?_;focus (first|assumption|omega|(simp;done)|((repeat' apply And.intro)<;>first|assumption|omega)|((repeat' split)<;>omega)))|((first|with_reducible (first|((refine bB TT ?_);intro K hK)|((refine aW TT ?_);intro K hK)|((refine b7 TT [] MX (by kernel_rfl) (by kernel_rfl) ?_);intro K hK)|((refine aV TT [] MX (by kernel_rfl) (by kernel_rfl) ?_);intro K hK))|(with_reducible (first|refine aR TT E (fun hb=>?_) (fun hb=>?_)|refine aQ TT E (fun hb=>?_) (fun hb=>?_)|refine aO TT _ _ (fun hb=>?_) (fun hb=>?_)|refine aP TT _ _ (fun hb=>?_) (fun hb=>?_))<;>try simp only [hb])|((first|refine aN TT E (bZ _) rfl rfl ?_|refine aM TT _ _ (bZ _) rfl rfl ?_);intro m hm;try dsimp only at hm)|((first|refine aN TT E (bI _ _ _) rfl rfl ?_|refine aM TT _ _ (bI _ _ _) rfl rfl ?_);intro m hm;try dsimp only at hm))<;>simp only [go_sem,↓reduceIte,aG,aH,a7,aA,aC,aD,aB,aE,a8,reduceCtorEq,aF,aI,aJ,aK,aL,hd,hw,hT.g,encT,hA.g,encI,hb,List.length_append,List.length_map,List.length_cons,List.length_nil,List.length_take,List.length_drop,List.mem_cons_self,true_and])))
      obtain ⟨c0,c1,rfl,hc1⟩ : ∃ c0 c1,el = [c0,c1] ∧ c1.er = .sl 3 (x.fields.map encF) .no:=by
        rw [encT] at hel2
        match el,hel2 with
        | [c0,c1],h=>simp only [erL,List.cons.injEq,and_true] at h;exact ⟨c0,c1,rfl,h.2⟩
        | [],h=>simp [erL] at h
        | [_],h=>simp [erL] at h
        | _ :: _ :: _ :: _,h=>simp [erL] at h
      simp only [ownL] at hte
      obtain ⟨t0,t2,rfl,dt,ho0,t3,t4,rfl,dt2,ho1,rfl⟩:=hte
      have hys : List.take (k - Int.toNat 0) (List.drop (Int.toNat 0) (List.map encI x.groups)) ++ List.take (x.groups.length - (k + 1)) (List.drop (k + 1) (List.map encI x.groups)) = (outG y x.groups).map encI:=by
        have e9 : List.take (x.groups.length - (k + 1)) (List.drop (k + 1) (List.map encI x.groups)) = List.drop (k + 1) (List.map encI x.groups):=List.take_of_length_le (by simp)
        rw [e9,← outG_cut hpw hy,List.map_append,List.map_take,List.map_drop]
        rfl
      have hlt1 : ∀ z ∈ u1 ++ (t0 ++ (t3 ++ []) ++ u2),z < m1 ∧ z ≠ u:=fun z hz=>⟨(g2 z hz).2,fun e=>g4 u (by simp [tkOf]) (e ▸ hz)⟩
      have hin : ∀ z,z < m1 → z ∈ u :: (u1 ++ (t0 ++ (t3 ++ []) ++ u2)) → z ∈ (nt + 1) :: List.filter (fun x=>x != nt) (nt :: u :: (u1 ++ (t0 ++ (t3 ++ []) ++ u2))):=fun z hz hm=>by
        refine List.mem_cons_of_mem _ (List.mem_filter.2 ⟨List.mem_cons_of_mem _ hm,?_⟩)
        simp;omega
      rw [hys]
      refine ⟨⟨_,u1 ++ (([nt + 1] ++ t3) ++ u2),_,rfl,rfl,hset [.sl 1 ((outG y x.groups).map encI) (.tok (nt + 1)),c1] _ (eB (d8 (by simp) (dB (fun _=>rfl) _)) (eO ho1) ?_) ?_ ?_,?_,?_,rfl,rfl,?_⟩⟩
      · intro z hz hz2
        simp at hz
        have:=(hlt1 z (by simp [hz2])).1
        omega
      · intro z hz hz2
        rcases List.mem_append.1 hz2 with h|h
        · simp at h
          have:=(hlt1 z (by simp [hz])).1
          omega
        · exact du1 z hz (by simp [h])
      · intro z hz hz2
        rcases List.mem_append.1 hz with h|h
        · simp at h
          have:=(hlt1 z (by simp [hz2])).1
          omega
        · exact du3 z (by simp [h]) hz2
      · intro z hz
        simp only [List.mem_append,List.mem_cons,List.not_mem_nil,or_false] at hz
        by_cases hzn : z = nt + 1
        · subst hzn;exact ⟨by simp,by omega⟩
        · have hmm : z ∈ u1 ++ (t0 ++ (t3 ++ []) ++ u2):=by
            rcases hz with h|(h|h)|h
            · simp [h]
            · exact absurd h hzn
            · simp [h]
            · simp [h]
          exact ⟨hin z (hlt1 z hmm).1 (List.mem_cons_of_mem _ hmm),(hlt1 z hmm).2⟩
      · exact hin u hu2 (by simp)
      · (repeat' (first|with_reducible (first|refine bC ?_|refine b6 ?_|refine b9 ?_|refine bA ?_|refine bD ?_|refine aT ?_|refine b8 ?_|refine aY ?_|refine aS ?_|refine b5 ?_|refine aU ?_|refine b4 rfl ?_|(refine hK _ ?_;clear K hK)|refine aZ rfl ?_|refine aX rfl ?_|intro hfact)|(with_reducible refine And.intro ?_ ?_;focus (first|assumption|omega|(simp;done)|((repeat' apply And.intro)<;>first|assumption|omega)|((repeat' split)<;>omega)))|((first|with_reducible (first|((refine bB TT ?_);intro K hK)|((refine aW TT ?_);intro K hK)|((refine b7 TT [] MX (by kernel_rfl) (by kernel_rfl) ?_);intro K hK)|((refine aV TT [] MX (by kernel_rfl) (by kernel_rfl) ?_);intro K hK))|(with_reducible (first|refine aR TT E (fun hb=>?_) (fun hb=>?_)|refine aQ TT E (fun hb=>?_) (fun hb=>?_)|refine aO TT _ _ (fun hb=>?_) (fun hb=>?_)|refine aP TT _ _ (fun hb=>?_) (fun hb=>?_))<;>try simp only [hb])|((first|refine aN TT E (bZ _) rfl rfl ?_|refine aM TT _ _ (bZ _) rfl rfl ?_);intro m hm;try dsimp only at hm)|((first|refine aN TT E (bI _ _ _) rfl rfl ?_|refine aM TT _ _ (bI _ _ _) rfl rfl ?_);intro m hm;try dsimp only at hm))<;>simp only [go_sem,↓reduceIte,aG,aH,a7,aA,aC,aD,aB,aE,a8,reduceCtorEq,aF,aI,aJ,aK,aL])))
        refine cQ TT (by simp only [go_sem,↓reduceIte,a7,aA,aB,a8,reduceCtorEq,Try.results13];rfl) rfl ?_
        simp [resV,joinA,leaveB,h0,h1,hx,hmem,AV.erR,AV.er,DV.er,erLL_set,hX,List.map_set,erL,hc1,eX,encT]
    · have hb : (y == g) = false:=by simp [hyg]
      have hne2 : ∀ z ∈ x.groups.take (k + 1),z ≠ g:=by
        rw [hA.snoc]
        intro z hz
        rcases List.mem_append.1 hz with h|h
        · exact hne z h
        · simp at h;rw [h];exact hyg
      (repeat' (first|with_reducible (first|refine bC ?_|refine b6 ?_|refine b9 ?_|refine bA ?_|refine bD ?_|refine aT ?_|refine b8 ?_|refine aY ?_|refine aS ?_|refine b5 ?_|refine aU ?_|refine b4 rfl ?_|(refine hK _ ?_;clear K hK)|refine aZ rfl ?_|refine aX rfl ?_|intro hfact)|(with_reducible refine And.intro ?_ ?_;focus (first|assumption|omega|(simp;done)|((repeat' apply And.intro)<;>first|assumption|omega)|((repeat' split)<;>omega)))|((first|with_reducible (first|((refine bB TT ?_);intro K hK)|((refine aW TT ?_);intro K hK)|((refine b7 TT [] MX (by kernel_rfl) (by kernel_rfl) ?_);intro K hK)|((refine aV TT [] MX (by kernel_rfl) (by kernel_rfl) ?_);intro K hK))|(with_reducible (first|refine aR TT E (fun hb=>?_) (fun hb=>?_)|refine aQ TT E (fun hb=>?_) (fun hb=>?_)|refine aO TT _ _ (fun hb=>?_) (fun hb=>?_)|refine aP TT _ _ (fun hb=>?_) (fun hb=>?_))<;>try simp only [hb])|((first|refine aN TT E (bZ _) rfl rfl ?_|refine aM TT _ _ (bZ _) rfl rfl ?_);intro m hm;try dsimp only at hm)|((first|refine aN TT E (bI _ _ _) rfl rfl ?_|refine aM TT _ _ (bI _ _ _) rfl rfl ?_);intro m hm;try dsimp only at hm))<;>simp only [go_sem,↓reduceIte,aG,aH,a7,aA,aC,aD,aB,aE,a8,reduceCtorEq,aF,aI,aJ,aK,aL,hd,hw,hT.g,encT,hA.g,encI,hb])))
      refine ⟨k + 1,⟨hkl,hne2,by dsimp only;omega⟩,by first|omega|(dsimp only;omega),(by unfold ASubW;simp only [go_sem,↓reduceIte,a7,aA,aB,a8,reduceCtorEq,hk,ST];try simp)⟩
  · have hd : decide ((k : Int) < (x.groups.length : Int)) = false:=by simp;omega
    have hke : k = x.groups.length:=by omega
    (repeat' (first|with_reducible (first|refine bC ?_|refine b6 ?_|refine b9 ?_|refine bA ?_|refine bD ?_|refine aT ?_|refine b8 ?_|refine aY ?_|refine aS ?_|refine b5 ?_|refine aU ?_|refine b4 rfl ?_|(refine hK _ ?_;clear K hK)|refine aZ rfl ?_|refine aX rfl ?_|intro hfact)|(with_reducible refine And.intro ?_ ?_;focus (first|assumption|omega|(simp;done)|((repeat' apply And.intro)<;>first|assumption|omega)|((repeat' split)<;>omega)))|((first|with_reducible (first|((refine bB TT ?_);intro K hK)|((refine aW TT ?_);intro K hK)|((refine b7 TT [] MX (by kernel_rfl) (by kernel_rfl) ?_);intro K hK)|((refine aV TT [] MX (by kernel_rfl) (by kernel_rfl) ?_);intro K hK))|(with_reducible (first|refine aR TT E (fun hb=>?_) (fun hb=>?_)|refine aQ TT E (fun hb=>?_) (fun hb=>?_)|refine aO TT _ _ (fun hb=>?_) (fun hb=>?_)|refine aP TT _ _ (fun hb=>?_) (fun hb=>?_))<;>try simp only [hb])|((first|refine aN TT E (bZ _) rfl rfl ?_|refine aM TT _ _ (bZ _) rfl rfl ?_);intro m hm;try dsimp only at hm)|((first|refine aN TT E (bI _ _ _) rfl rfl ?_|refine aM TT _ _ (bI _ _ _) rfl rfl ?_);intro m hm;try dsimp only at hm))<;>simp only [go_sem,↓reduceIte,aG,aH,a7,aA,aC,aD,aB,aE,a8,reduceCtorEq,aF,aI,aJ,aK,aL,hd,hT.g,encT])))
    have hmem : g ∉ x.groups:=fun h=>hne g (by rw [hke,List.take_length];exact h) rfl
    refine cQ TT (by simp only [go_sem,↓reduceIte,a7,aA,aB,a8,reduceCtorEq,Try.results13];rfl) rfl ?_;simp [resV,joinA,leaveB,h0,h1,hx,hmem,AV.erR,AV.er,DV.er,erLL]
end Go.Proofs.Ytdfbaedkcfhdfaa
