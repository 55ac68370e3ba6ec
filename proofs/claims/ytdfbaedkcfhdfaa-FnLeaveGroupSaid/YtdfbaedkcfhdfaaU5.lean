import Derived.Test.YtdfbaedkcfhdfaaU4
open Int renaming reduceToNat → aF,reduceBEq → aG,reduceBNe → aH,reduceNeg → aI,reduceEq → aJ,reduceLE → aK,reduceLT → aL
open Nat renaming reduceEqDiff → a7,reduceLeDiff → a8,reduceAdd → aA,reduceLT → aB,reduceMul → aC,reduceSub → aD,reduceBEq → aE
namespace Go.Proofs.Ytdfbaedkcfhdfaa
open Go Go.AL
set_option linter.unusedSimpArgs false
set_option linter.unusedVariables false
def ixN (v : Int) : List Int → Int → Int
  | [],_=>-1
  | x :: r,k=>if v = x then k else ixN v r (k + 1)
theorem ixN_any (v : Int) (l : List Int) : ∀ k : Int,0 ≤ k → decide (0 ≤ ixN v l k) = decide (v ∈ l):=by
  induction l with
  | nil=>intro k _;simp [ixN]
  | cons x l ih =>
    intro k hk
    rw [ixN]
    by_cases h : v = x
    · subst h;simp [hk]
    · rw [if_neg h,ih (k + 1) (by omega)]
      simp [h]
theorem ixN_ge (v : Int) (l : List Int) : decide (ixN v l 0 ≥ 0) = decide (v ∈ l):=ixN_any v l 0 (Int.le_refl _)
theorem indexI (l : List Int) (v : Int) : Gives Try.prog 107 [LI l,I v] (I (ixN v l 0)):=by
  refine bE TT Try.call107 Try.func107 rfl (by simp [Try.ntmps107]) (by kernel_rfl) fun E hk=>?_
  (repeat' (first|with_reducible (first|refine bC ?_|refine b6 ?_|refine b9 ?_|refine bA ?_|refine bD ?_|refine aT ?_|refine b8 ?_|refine aY ?_|refine aS ?_|refine b5 ?_|refine aU ?_|refine b4 rfl ?_|(refine hK _ ?_;clear K hK)|refine aZ rfl ?_|refine aX rfl ?_|intro hfact)|(with_reducible refine And.intro ?_ ?_;focus (first|assumption|omega|(simp;done)|((repeat' apply And.intro)<;>first|assumption|omega)|((repeat' split)<;>omega)))|((first|with_reducible (first|((refine bB TT ?_);intro K hK)|((refine aW TT ?_);intro K hK)|((refine b7 TT [] MX (by kernel_rfl) (by kernel_rfl) ?_);intro K hK)|((refine aV TT [] MX (by kernel_rfl) (by kernel_rfl) ?_);intro K hK))|(with_reducible (first|refine aR TT E (fun hb=>?_) (fun hb=>?_)|refine aQ TT E (fun hb=>?_) (fun hb=>?_)|refine aO TT _ _ (fun hb=>?_) (fun hb=>?_)|refine aP TT _ _ (fun hb=>?_) (fun hb=>?_))<;>try simp only [hb]))<;>simp only [go_sem,↓reduceIte,aG,aH,a7,aA,aC,aD,aB,aE,a8,reduceCtorEq,aF,aI,aJ,aK,aL])))
  refine cE (l) (List.length (l)) 0 [] [0,1,7] (fun k st=>[(8,I k)]) (fun obs k st=>obs) (fun k st=>[]) (fun k rest st nt=>ixN v rest k = ixN v l 0) (()) (by first|rfl|(simp;done)|(simp;omega)) (by first|rfl|(simp only [go_sem,↓reduceIte,a7,aA,aB,a8,reduceCtorEq];done)|(simp only [go_sem,↓reduceIte,a7,aA,aB,a8,reduceCtorEq];simp;done)) (by simp only [go_sem,↓reduceIte,a7,aA,aB,a8,reduceCtorEq];rfl) (by first|rfl|(simp only [go_sem,↓reduceIte,a7,aA,aB,a8,reduceCtorEq];rfl)) (rfl) (by unfold ASubW;simp only [go_sem,↓reduceIte,a7,aA,aB,a8,reduceCtorEq,hk];try simp) ?_ ?_
  · rintro st nt hmax hinv
    (repeat' (first|with_reducible (first|refine bC ?_|refine b6 ?_|refine b9 ?_|refine bA ?_|refine bD ?_|refine aT ?_|refine b8 ?_|refine aY ?_|refine aS ?_|refine b5 ?_|refine aU ?_|refine b4 rfl ?_|(refine hK _ ?_;clear K hK)|refine aZ rfl ?_|refine aX rfl ?_|intro hfact)|(with_reducible refine And.intro ?_ ?_;focus (first|assumption|omega|(simp;done)|((repeat' apply And.intro)<;>first|assumption|omega)|((repeat' split)<;>omega)))|((first|with_reducible (first|((refine bB TT ?_);intro K hK)|((refine aW TT ?_);intro K hK)|((refine b7 TT [] MX (by kernel_rfl) (by kernel_rfl) ?_);intro K hK)|((refine aV TT [] MX (by kernel_rfl) (by kernel_rfl) ?_);intro K hK))|(with_reducible (first|refine aR TT E (fun hb=>?_) (fun hb=>?_)|refine aQ TT E (fun hb=>?_) (fun hb=>?_)|refine aO TT _ _ (fun hb=>?_) (fun hb=>?_)|refine aP TT _ _ (fun hb=>?_) (fun hb=>?_))<;>try simp only [hb]))<;>simp only [go_sem,↓reduceIte,aG,aH,a7,aA,aC,aD,aB,aE,a8,reduceCtorEq,aF,aI,aJ,aK,aL])))
    refine bF TT (by simp only [go_sem,↓reduceIte,a7,aA,aB,a8,reduceCtorEq,Try.results107];rfl) rfl ?_;simp [resV,← hinv,ixN]
  · rintro k x rest st nt hA hinv
    rw [ixN] at hinv
    (repeat' (first|with_reducible (first|refine bC ?_|refine b6 ?_|refine b9 ?_|refine bA ?_|refine bD ?_|refine aT ?_|refine b8 ?_|refine aY ?_|refine aS ?_|refine b5 ?_|refine aU ?_|refine b4 rfl ?_|(refine hK _ ?_;clear K hK)|refine aZ rfl ?_|refine aX rfl ?_|intro hfact)|(with_reducible refine And.intro ?_ ?_;focus (first|assumption|omega|(simp;done)|((repeat' apply And.intro)<;>first|assumption|omega)|((repeat' split)<;>omega)))|((first|with_reducible (first|((refine bB TT ?_);intro K hK)|((refine aW TT ?_);intro K hK)|((refine b7 TT [] MX (by kernel_rfl) (by kernel_rfl) ?_);intro K hK)|((refine aV TT [] MX (by kernel_rfl) (by kernel_rfl) ?_);intro K hK))|(with_reducible (first|refine aR TT E (fun hb=>?_) (fun hb=>?_)|refine aQ TT E (fun hb=>?_) (fun hb=>?_)|refine aO TT _ _ (fun hb=>?_) (fun hb=>?_)|refine aP TT _ _ (fun hb=>?_) (fun hb=>?_))<;>try simp only [hb]))<;>simp only [go_sem,↓reduceIte,aG,aH,a7,aA,aC,aD,aB,aE,a8,reduceCtorEq,aF,aI,aJ,aK,aL,hA.d,hA.w,hA.lt,hA.g,encI])|refine c6 rfl (fun hb=>?_) (fun hb=>?_)|refine bW rfl (fun hb=>?_) (fun hb=>?_)|refine bM rfl (fun hb=>?_) (fun hb=>?_)))
    all_goals (try simp at hb)
    all_goals first
      | (rw [if_pos hb] at hinv;refine bF TT (by simp only [go_sem,↓reduceIte,a7,aA,aB,a8,reduceCtorEq,Try.results107];rfl) rfl ?_;simp [resV,hinv];done)
      | (rw [if_neg hb] at hinv;refine ⟨(),hinv,(by unfold ASubW;simp only [go_sem,↓reduceIte,a7,aA,aB,a8,reduceCtorEq,hk];try simp)⟩)
theorem contI (l : List Int) (v : Int) : Gives Try.prog 52 [LI l,I v] (B (decide (v ∈ l))):=by
  refine bE TT Try.call52 Try.func52 rfl (by simp [Try.ntmps52]) (by kernel_rfl) fun E hk=>?_
  (repeat' (first|with_reducible (first|refine bC ?_|refine b6 ?_|refine b9 ?_|refine bA ?_|refine bD ?_|refine aT ?_|refine b8 ?_|refine aY ?_|refine aS ?_|refine b5 ?_|refine aU ?_|refine b4 rfl ?_|(refine hK _ ?_;clear K hK)|refine aZ rfl ?_|refine aX rfl ?_|intro hfact)|(with_reducible refine And.intro ?_ ?_;focus (first|assumption|omega|(simp;done)|((repeat' apply And.intro)<;>first|assumption|omega)|((repeat' split)<;>omega)))|((first|with_reducible (first|((refine bB TT ?_);intro K hK)|((refine aW TT ?_);intro K hK)|((refine b7 TT [] MX (by kernel_rfl) (by kernel_rfl) ?_);intro K hK)|((refine aV TT [] MX (by kernel_rfl) (by kernel_rfl) ?_);intro K hK))|(with_reducible (first|refine aR TT E (fun hb=>?_) (fun hb=>?_)|refine aQ TT E (fun hb=>?_) (fun hb=>?_)|refine aO TT _ _ (fun hb=>?_) (fun hb=>?_)|refine aP TT _ _ (fun hb=>?_) (fun hb=>?_))<;>try simp only [hb])|((first|refine aN TT E (indexI _ _) rfl rfl ?_|refine aM TT _ _ (indexI _ _) rfl rfl ?_);intro m hm;try dsimp only at hm))<;>simp only [go_sem,↓reduceIte,aG,aH,a7,aA,aC,aD,aB,aE,a8,reduceCtorEq,aF,aI,aJ,aK,aL])))
  refine bF TT (by simp only [go_sem,↓reduceIte,a7,aA,aB,a8,reduceCtorEq,Try.results52];rfl) rfl ?_
  simp only [resV];rw [← ixN_ge]
theorem pw_asc : ∀ {l : List Int} {lo hi : Int},ascB l lo hi = true → l.Pairwise (· < ·)
  | [],_,_,_=>.nil
  | n :: r,lo,hi,h=>by
    rw [ascB,Bool.and_eq_true] at h
    refine .cons (fun x hx=>?_) (pw_asc h.2)
    have:=(ascB_mem h.2 x hx).1
    omega
theorem ins_cases : ∀ (l : List Int) (g : Int),l.Pairwise (· < ·) → g ∉ l → ∃ a b,l = a ++ b ∧ filtG g l = a ∧ (∀ x ∈ a,x < g) ∧ ∀ x ∈ b,g < x
  | [],g,_,_=>⟨[],[],rfl,rfl,by simp,by simp⟩
  | x :: l,g,hp,hg=>by
    simp only [List.mem_cons,not_or] at hg
    rw [List.pairwise_cons] at hp
    by_cases hx : x < g
    · obtain ⟨a,b,h1,h2,h3,h4⟩:=ins_cases l g hp.2 hg.2
      refine ⟨x :: a,b,by rw [h1];rfl,by unfold filtG at h2 ⊢;rw [List.filter_cons,if_pos (by simpa using hx),h2],fun z hz=>?_,h4⟩
      rcases List.mem_cons.1 hz with rfl|hz
      · exact hx
      · exact h3 z hz
    · have hall : ∀ z ∈ x :: l,g < z:=fun z hz=>by
        rcases List.mem_cons.1 hz with rfl|hz
        · omega
        · have:=hp.1 z hz;omega
      refine ⟨[],x :: l,rfl,?_,by simp,hall⟩
      unfold filtG
      rw [List.filter_eq_nil_iff]
      intro z hz
      have:=hall z hz
      simp;omega
theorem sort_ins {l : List Int} {g : Int} (hp : l.Pairwise (· < ·)) (hg : g ∉ l) : sortF (l ++ [g]) = insG g l:=by
  obtain ⟨a,b,h1,h2,h3,h4⟩:=ins_cases l g hp hg
  have hab : insG g l = a ++ ([g] ++ b):=by
    unfold insG
    rw [h2,List.append_assoc]
    congr 2
    rw [h1];simp
  have hle : ∀ a b c : Int,decide (a ≤ b) = true → decide (b ≤ c) = true → decide (a ≤ c) = true:=fun a b c h1 h2=>by simp at *;omega
  have htot : ∀ a b : Int,(decide (a ≤ b) || decide (b ≤ a)) = true:=fun a b=>by simp;omega
  have hs1 : (sortF (l ++ [g])).Pairwise (fun x y=>decide (x ≤ y) = true):=List.pairwise_mergeSort hle htot _
  have hs2 : (insG g l).Pairwise (fun x y=>decide (x ≤ y) = true):=by
    rw [hab]
    rw [h1,List.pairwise_append] at hp
    rw [List.pairwise_append]
    refine ⟨hp.1.imp fun h=>by simp;omega,?_,fun x hx y hy=>?_⟩
    · rw [List.singleton_append,List.pairwise_cons]
      exact ⟨fun y hy=>by have:=h4 y hy;simp;omega,hp.2.1.imp fun h=>by simp;omega⟩
    · have:=h3 x hx
      rw [List.singleton_append,List.mem_cons] at hy
      rcases hy with rfl|hy
      · simp;omega
      · have:=h4 y hy;simp;omega
  have hperm : (sortF (l ++ [g])).Perm (insG g l):=by
    refine (List.mergeSort_perm _ _).trans ?_
    rw [hab,h1,List.append_assoc]
    exact (List.perm_append_left_iff a).2 (List.perm_append_comm)
  exact hperm.eq_of_pairwise (fun x y _ _ h1 h2=>by simp at h1 h2;omega) hs1 hs2
set_option maxHeartbeats 4000000 in
theorem joinO (w : List Thing) (t g : Int) : AC Try.prog 17 [LT w,I t,I g] [] (OwnR (joinA (joinB w t g))):=by
  refine bE TT Try.call17 Try.func17 rfl (by simp [Try.ntmps17]) (by kernel_rfl) fun E hk=>?_
  cases h0 : worldB w
  · (repeat' (first|(refine d9 6 2 rfl ?_)|with_reducible (first|refine bC ?_|refine b6 ?_|refine b9 ?_|refine bA ?_|refine bD ?_|refine aT ?_|refine b8 ?_|refine aY ?_|refine aS ?_|refine b5 ?_|refine aU ?_|refine b4 rfl ?_|(refine hK _ ?_;clear K hK)|refine aZ rfl ?_|refine aX rfl ?_|intro hfact)|(with_reducible refine And.intro ?_ ?_;focus (first|assumption|omega|(simp;done)|((repeat' apply And.intro)<;>first|assumption|omega)|((repeat' split)<;>omega)))|((first|with_reducible (first|((refine bB TT ?_);intro K hK)|((refine aW TT ?_);intro K hK)|((refine b7 TT [] MX (by kernel_rfl) (by kernel_rfl) ?_);intro K hK)|((refine aV TT [] MX (by kernel_rfl) (by kernel_rfl) ?_);intro K hK))|(with_reducible (first|refine aR TT E (fun hb=>?_) (fun hb=>?_)|refine aQ TT E (fun hb=>?_) (fun hb=>?_)|refine aO TT _ _ (fun hb=>?_) (fun hb=>?_)|refine aP TT _ _ (fun hb=>?_) (fun hb=>?_))<;>try simp only [hb])|((first|refine aN TT E (bP _) rfl rfl ?_|refine aM TT _ _ (bP _) rfl rfl ?_);intro m hm;try dsimp only at hm)|((first|refine aN TT E (bH _ _) rfl rfl ?_|refine aM TT _ _ (bH _ _) rfl rfl ?_);intro m hm;try dsimp only at hm)|((first|refine aN TT E (contI _ _) rfl rfl ?_|refine aM TT _ _ (contI _ _) rfl rfl ?_);intro m hm;try dsimp only at hm)|((first|refine aN TT E (cB _ _ _) rfl rfl ?_|refine aM TT _ _ (cB _ _ _) rfl rfl ?_);intro m hm;try dsimp only at hm))<;>simp only [go_sem,↓reduceIte,aG,aH,a7,aA,aC,aD,aB,aE,a8,reduceCtorEq,aF,aI,aJ,aK,aL,h0])))
    refine cU TT (m:=0) (toks:=[]) (by simp only [go_sem,↓reduceIte,a7,aA,aB,a8,reduceCtorEq,Try.results17];rfl) (by simp) (by intro t ht;simp at ht) rfl ⟨rfl,?_,(by intro x hx;simp at hx),?_,(by first|exact Nat.le_refl _|(dsimp only;omega))⟩
    · exact show ownD _ _ by simp [ownD]
    · simp [resV,joinA,joinB,h0,AV.erR,AV.er,DV.er,erLL]
  have hw7:=dR h0
  cases h1 : inB t 0 ((w.length : Int) - 1)
  · (repeat' (first|(refine d9 6 2 rfl ?_)|with_reducible (first|refine bC ?_|refine b6 ?_|refine b9 ?_|refine bA ?_|refine bD ?_|refine aT ?_|refine b8 ?_|refine aY ?_|refine aS ?_|refine b5 ?_|refine aU ?_|refine b4 rfl ?_|(refine hK _ ?_;clear K hK)|refine aZ rfl ?_|refine aX rfl ?_|intro hfact)|(with_reducible refine And.intro ?_ ?_;focus (first|assumption|omega|(simp;done)|((repeat' apply And.intro)<;>first|assumption|omega)|((repeat' split)<;>omega)))|((first|with_reducible (first|((refine bB TT ?_);intro K hK)|((refine aW TT ?_);intro K hK)|((refine b7 TT [] MX (by kernel_rfl) (by kernel_rfl) ?_);intro K hK)|((refine aV TT [] MX (by kernel_rfl) (by kernel_rfl) ?_);intro K hK))|(with_reducible (first|refine aR TT E (fun hb=>?_) (fun hb=>?_)|refine aQ TT E (fun hb=>?_) (fun hb=>?_)|refine aO TT _ _ (fun hb=>?_) (fun hb=>?_)|refine aP TT _ _ (fun hb=>?_) (fun hb=>?_))<;>try simp only [hb])|((first|refine aN TT E (bP _) rfl rfl ?_|refine aM TT _ _ (bP _) rfl rfl ?_);intro m hm;try dsimp only at hm)|((first|refine aN TT E (bH _ _) rfl rfl ?_|refine aM TT _ _ (bH _ _) rfl rfl ?_);intro m hm;try dsimp only at hm)|((first|refine aN TT E (contI _ _) rfl rfl ?_|refine aM TT _ _ (contI _ _) rfl rfl ?_);intro m hm;try dsimp only at hm)|((first|refine aN TT E (cB _ _ _) rfl rfl ?_|refine aM TT _ _ (cB _ _ _) rfl rfl ?_);intro m hm;try dsimp only at hm))<;>simp only [go_sem,↓reduceIte,aG,aH,a7,aA,aC,aD,aB,aE,a8,reduceCtorEq,aF,aI,aJ,aK,aL,h0,h1])))
    refine cU TT (m:=0) (toks:=[]) (by simp only [go_sem,↓reduceIte,a7,aA,aB,a8,reduceCtorEq,Try.results17];rfl) (by simp) (by intro t ht;simp at ht) rfl ⟨rfl,?_,(by intro x hx;simp at hx),?_,(by first|exact Nat.le_refl _|(dsimp only;omega))⟩
    · exact show ownD _ _ by simp [ownD]
    · simp [resV,joinA,joinB,h1,AV.erR,AV.er,DV.er,erLL]
  have h1':=dP.1 h1
  have hw2 : IntKind.i64.wrap (t - 1) = t - 1:=bT (by omega)
  cases h2 : inB g 0 (t - 1)
  · (repeat' (first|(refine d9 6 2 rfl ?_)|with_reducible (first|refine bC ?_|refine b6 ?_|refine b9 ?_|refine bA ?_|refine bD ?_|refine aT ?_|refine b8 ?_|refine aY ?_|refine aS ?_|refine b5 ?_|refine aU ?_|refine b4 rfl ?_|(refine hK _ ?_;clear K hK)|refine aZ rfl ?_|refine aX rfl ?_|intro hfact)|(with_reducible refine And.intro ?_ ?_;focus (first|assumption|omega|(simp;done)|((repeat' apply And.intro)<;>first|assumption|omega)|((repeat' split)<;>omega)))|((first|with_reducible (first|((refine bB TT ?_);intro K hK)|((refine aW TT ?_);intro K hK)|((refine b7 TT [] MX (by kernel_rfl) (by kernel_rfl) ?_);intro K hK)|((refine aV TT [] MX (by kernel_rfl) (by kernel_rfl) ?_);intro K hK))|(with_reducible (first|refine aR TT E (fun hb=>?_) (fun hb=>?_)|refine aQ TT E (fun hb=>?_) (fun hb=>?_)|refine aO TT _ _ (fun hb=>?_) (fun hb=>?_)|refine aP TT _ _ (fun hb=>?_) (fun hb=>?_))<;>try simp only [hb])|((first|refine aN TT E (bP _) rfl rfl ?_|refine aM TT _ _ (bP _) rfl rfl ?_);intro m hm;try dsimp only at hm)|((first|refine aN TT E (bH _ _) rfl rfl ?_|refine aM TT _ _ (bH _ _) rfl rfl ?_);intro m hm;try dsimp only at hm)|((first|refine aN TT E (contI _ _) rfl rfl ?_|refine aM TT _ _ (contI _ _) rfl rfl ?_);intro m hm;try dsimp only at hm)|((first|refine aN TT E (cB _ _ _) rfl rfl ?_|refine aM TT _ _ (cB _ _ _) rfl rfl ?_);intro m hm;try dsimp only at hm))<;>simp only [go_sem,↓reduceIte,aG,aH,a7,aA,aC,aD,aB,aE,a8,reduceCtorEq,aF,aI,aJ,aK,aL,h0,h1,h2,hw2])))
    refine cU TT (m:=0) (toks:=[]) (by simp only [go_sem,↓reduceIte,a7,aA,aB,a8,reduceCtorEq,Try.results17];rfl) (by simp) (by intro t ht;simp at ht) rfl ⟨rfl,?_,(by intro x hx;simp at hx),?_,(by first|exact Nat.le_refl _|(dsimp only;omega))⟩
    · exact show ownD _ _ by simp [ownD]
    · simp [resV,joinA,joinB,h2,AV.erR,AV.er,DV.er,erLL]
  obtain ⟨tn,rfl⟩ : ∃ tn : Nat,t = tn:=⟨t.toNat,by omega⟩
  have htl : tn < w.length:=by omega
  obtain ⟨x,hx⟩ : ∃ x,w[tn]? = some x:=⟨w[tn],by simp [htl]⟩
  have hT : At w w.length tn x (w.drop (tn + 1)):=⟨rfl,htl,by rw [List.drop_eq_getElem_cons htl];congr 1;exact Option.some.inj (by rw [← hx];simp [htl]),by omega⟩
  have hsm:=smallW_of h0
  have hxs:=hsm.2 x hT.mem
  cases h3 : decide (g ∈ x.groups)
  rotate_left
  · have h3' : g ∈ x.groups:=by simpa using h3
    (repeat' (first|(refine d9 6 2 rfl ?_)|with_reducible (first|refine bC ?_|refine b6 ?_|refine b9 ?_|refine bA ?_|refine bD ?_|refine aT ?_|refine b8 ?_|refine aY ?_|refine aS ?_|refine b5 ?_|refine aU ?_|refine b4 rfl ?_|(refine hK _ ?_;clear K hK)|refine aZ rfl ?_|refine aX rfl ?_|intro hfact)|(with_reducible refine And.intro ?_ ?_;focus (first|assumption|omega|(simp;done)|((repeat' apply And.intro)<;>first|assumption|omega)|((repeat' split)<;>omega)))|((first|with_reducible (first|((refine bB TT ?_);intro K hK)|((refine aW TT ?_);intro K hK)|((refine b7 TT [] MX (by kernel_rfl) (by kernel_rfl) ?_);intro K hK)|((refine aV TT [] MX (by kernel_rfl) (by kernel_rfl) ?_);intro K hK))|(with_reducible (first|refine aR TT E (fun hb=>?_) (fun hb=>?_)|refine aQ TT E (fun hb=>?_) (fun hb=>?_)|refine aO TT _ _ (fun hb=>?_) (fun hb=>?_)|refine aP TT _ _ (fun hb=>?_) (fun hb=>?_))<;>try simp only [hb])|((first|refine aN TT E (bP _) rfl rfl ?_|refine aM TT _ _ (bP _) rfl rfl ?_);intro m hm;try dsimp only at hm)|((first|refine aN TT E (bH _ _) rfl rfl ?_|refine aM TT _ _ (bH _ _) rfl rfl ?_);intro m hm;try dsimp only at hm)|((first|refine aN TT E (contI _ _) rfl rfl ?_|refine aM TT _ _ (contI _ _) rfl rfl ?_);intro m hm;try dsimp only at hm)|((first|refine aN TT E (cB _ _ _) rfl rfl ?_|refine aM TT _ _ (cB _ _ _) rfl rfl ?_);intro m hm;try dsimp only at hm))<;>simp only [go_sem,↓reduceIte,aG,aH,a7,aA,aC,aD,aB,aE,a8,reduceCtorEq,aF,aI,aJ,aK,aL,h0,h1,h2,hw2,hT.g,encT,h3])))
    refine cU TT (m:=0) (toks:=[]) (by simp only [go_sem,↓reduceIte,a7,aA,aB,a8,reduceCtorEq,Try.results17];rfl) (by simp) (by intro t ht;simp at ht) rfl ⟨rfl,?_,(by intro x hx;simp at hx),?_,(by first|exact Nat.le_refl _|(dsimp only;omega))⟩
    · exact show ownD _ _ by simp [ownD]
    · simp [resV,joinA,joinB,hx,h3',AV.erR,AV.er,DV.er,erLL]
  have h3' : g ∉ x.groups:=by simpa using h3
  (repeat' (first|with_reducible (first|refine bC ?_|refine b6 ?_|refine b9 ?_|refine bA ?_|refine bD ?_|refine aT ?_|refine b8 ?_|refine aY ?_|refine aS ?_|refine b5 ?_|refine aU ?_|refine b4 rfl ?_|(refine hK _ ?_;clear K hK)|refine aZ rfl ?_|refine aX rfl ?_|intro hfact)|(with_reducible refine And.intro ?_ ?_;focus (first|assumption|omega|(simp;done)|((repeat' apply And.intro)<;>first|assumption|omega)|((repeat' split)<;>omega)))|((first|with_reducible (first|((refine bB TT ?_);intro K hK)|((refine aW TT ?_);intro K hK)|((refine b7 TT [] MX (by kernel_rfl) (by kernel_rfl) ?_);intro K hK)|((refine aV TT [] MX (by kernel_rfl) (by kernel_rfl) ?_);intro K hK))|(with_reducible (first|refine aR TT E (fun hb=>?_) (fun hb=>?_)|refine aQ TT E (fun hb=>?_) (fun hb=>?_)|refine aO TT _ _ (fun hb=>?_) (fun hb=>?_)|refine aP TT _ _ (fun hb=>?_) (fun hb=>?_))<;>try simp only [hb])|((first|refine aN TT E (bP _) rfl rfl ?_|refine aM TT _ _ (bP _) rfl rfl ?_);intro m hm;try dsimp only at hm)|((first|refine aN TT E (bH _ _) rfl rfl ?_|refine aM TT _ _ (bH _ _) rfl rfl ?_);intro m hm;try dsimp only at hm)|((first|refine aN TT E (contI _ _) rfl rfl ?_|refine aM TT _ _ (contI _ _) rfl rfl ?_);intro m hm;try dsimp only at hm)|((first|refine aN TT E (cB _ _ _) rfl rfl ?_|refine aM TT _ _ (cB _ _ _) rfl rfl ?_);intro m hm;try dsimp only at hm))<;>simp only [go_sem,↓reduceIte,aG,aH,a7,aA,aC,aD,aB,aE,a8,reduceCtorEq,aF,aI,aJ,aK,aL,h0,h1,h2,hw2,hT.g,encT,h3])))
  refine dF TT E [] (cwO w hsm) rfl rfl rfl (by decide) ?_
  rintro r os t1 m1 ⟨ps,own,rfl,rfl,rfl,hpl,hnd,hbd,hsw,hno,hnm⟩
  dsimp only at hbd hnm
  obtain ⟨u,rfl,hu1,hu2⟩ : ∃ u,own = .tok u ∧ m ≤ u ∧ u < m1:=by
    rcases hsw with ⟨_,hn⟩|⟨u,h1,h2,h3⟩
    · rw [hn,List.length_nil] at hpl;omega
    · exact ⟨u,h1,h2,h3⟩
  obtain ⟨p,hp⟩ : ∃ p,ps[tn]? = some p:=⟨ps[tn]'(by omega),by simp⟩
  have hXg:=WX_get hx hp
  have hpk:=cG hXg
  have hXlen : tn < (WX w ps).length:=by rw [WX_len _ _ hpl];exact htl
  obtain ⟨hpn,hpm0⟩:=holeT_ne hnd hp
  have hpm : p.1 ∈ u :: tksW ps:=List.mem_cons_of_mem _ hpm0
  have hup : u ∉ tksW ps:=hno u (by simp [tkOf])
  have hpb:=hbd p.1 hpm0
  simp only [go_sem,↓reduceIte,a7,aA,aB,a8,reduceCtorEq]
  (repeat' (first|((refine awp_seqrS (id:=4) TT 10 ?_;intro K hK;simp only [List.take_succ_cons,List.take_zero];simp only [go_sem,↓reduceIte,a7,aA,aB,a8,reduceCtorEq,hpk]))|with_reducible (first|refine bC ?_|refine b6 ?_|refine b9 ?_|refine bA ?_|refine bD ?_|refine aT ?_|refine b8 ?_|refine aY ?_|refine aS ?_|refine b5 ?_|refine aU ?_|refine b4 rfl ?_|(refine hK _ ?_;clear K hK)|refine aZ rfl ?_|refine aX rfl ?_|intro hfact)|(with_reducible refine And.intro ?_ ?_;focus (first|assumption|omega|(simp;done)|((repeat' apply And.intro)<;>first|assumption|omega)|((repeat' split)<;>omega)))|((first|with_reducible (first|((refine bB TT ?_);intro K hK)|((refine aW TT ?_);intro K hK)|((refine b7 TT [] MX (by kernel_rfl) (by kernel_rfl) ?_);intro K hK)|((refine aV TT [] MX (by kernel_rfl) (by kernel_rfl) ?_);intro K hK))|(with_reducible (first|refine aR TT E (fun hb=>?_) (fun hb=>?_)|refine aQ TT E (fun hb=>?_) (fun hb=>?_)|refine aO TT _ _ (fun hb=>?_) (fun hb=>?_)|refine aP TT _ _ (fun hb=>?_) (fun hb=>?_))<;>try simp only [hb])|((first|refine aN TT E (bP _) rfl rfl ?_|refine aM TT _ _ (bP _) rfl rfl ?_);intro m hm;try dsimp only at hm)|((first|refine aN TT E (bH _ _) rfl rfl ?_|refine aM TT _ _ (bH _ _) rfl rfl ?_);intro m hm;try dsimp only at hm)|((first|refine aN TT E (contI _ _) rfl rfl ?_|refine aM TT _ _ (contI _ _) rfl rfl ?_);intro m hm;try dsimp only at hm)|((first|refine aN TT E (cB _ _ _) rfl rfl ?_|refine aM TT _ _ (cB _ _ _) rfl rfl ?_);intro m hm;try dsimp only at hm))<;>simp only [go_sem,↓reduceIte,aG,aH,a7,aA,aC,aD,aB,aE,a8,reduceCtorEq,aF,aI,aJ,aK,aL,hT.g,encT,hpk])))
  simp only [List.drop_succ_cons,List.drop_zero]
  have hys : List.map encI x.groups ++ [List.take 1 (layL [DV.int IntKind.i64 0] (0 * 1) [DV.int IntKind.i64 g])] = (x.groups ++ [g]).map encI:=by rw [List.map_append];rfl
  rw [hys]
  have hm1n : m1 ∉ tksW ps:=fun h=>by have:=(hbd m1 h).2;omega
  have hset:=WX_set (x.groups ++ [g]) m1 hx hp
  have hl2 : (w.set tn ⟨x.groups ++ [g],x.fields⟩).length = (ps.set tn (m1,p.2)).length:=by simp [hpl]
  have hnd2:=tksW_nd m1 hp hnd hm1n
  have hx2 : (w.set tn ⟨x.groups ++ [g],x.fields⟩)[tn]? = some ⟨x.groups ++ [g],x.fields⟩:=by simp [htl]
  have hp2 : (ps.set tn (m1,p.2))[tn]? = some (m1,p.2):=by rw [List.getElem?_set_self (by omega)]
  have hXg2:=WX_get hx2 hp2
  dsimp only at hXg2
  have hpk2:=cG hXg2
  refine sem_storeE TT (r:=8) [1] (us:=tksW (ps.set tn (m1,p.2))) rfl rfl rfl rfl hXg (by decide) rfl rfl rfl rfl rfl rfl (by decide) rfl rfl ?_ ?_ ?_ hk rfl rfl rfl rfl ?_
  · show ownLL ((WX w ps).set tn [.sl 1 ((x.groups ++ [g]).map encI) (.tok m1),.sl 3 (x.fields.map encF) (.tok p.2)]) _
    rw [hset]
    exact WX_own _ _ hl2 hnd2
  · intro z hz
    rcases dE m1 hp hz with rfl|hz
    · exact ⟨by simp,by omega⟩
    · have hz1:=cD hz
      refine ⟨List.mem_cons_of_mem _ (List.mem_filter.2 ⟨List.mem_cons_of_mem _ hz1,?_⟩),fun e=>hup (e ▸ hz1)⟩
      simp only [bne_iff_ne,ne_eq]
      exact fun e=>hpn (e ▸ hz)
  · refine List.mem_cons_of_mem _ (List.mem_filter.2 ⟨by simp,?_⟩)
    simp only [bne_iff_ne,ne_eq]
    exact fun e=>hup (e ▸ hpm0)
  refine sem_nil ?_
  simp only [List.set_cons_zero,hset]
  have hXlen2 : tn < (WX (w.set tn ⟨x.groups ++ [g],x.fields⟩) (ps.set tn (m1,p.2))).length:=by rw [WX_len _ _ hl2];simp;exact htl
  (repeat' (first|((refine awp_seqrS (id:=5) TT 5 ?_;intro K hK;simp only [List.take_succ_cons,List.take_zero];simp only [go_sem,↓reduceIte,a7,aA,aB,a8,reduceCtorEq,hpk2]))|with_reducible (first|refine bC ?_|refine b6 ?_|refine b9 ?_|refine bA ?_|refine bD ?_|refine aT ?_|refine b8 ?_|refine aY ?_|refine aS ?_|refine b5 ?_|refine aU ?_|refine b4 rfl ?_|(refine hK _ ?_;clear K hK)|refine aZ rfl ?_|refine aX rfl ?_|intro hfact)|(with_reducible refine And.intro ?_ ?_;focus (first|assumption|omega|(simp;done)|((repeat' apply And.intro)<;>first|assumption|omega)|((repeat' split)<;>omega)))|((first|with_reducible (first|((refine bB TT ?_);intro K hK)|((refine aW TT ?_);intro K hK)|((refine b7 TT [] MX (by kernel_rfl) (by kernel_rfl) ?_);intro K hK)|((refine aV TT [] MX (by kernel_rfl) (by kernel_rfl) ?_);intro K hK))|(with_reducible (first|refine aR TT E (fun hb=>?_) (fun hb=>?_)|refine aQ TT E (fun hb=>?_) (fun hb=>?_)|refine aO TT _ _ (fun hb=>?_) (fun hb=>?_)|refine aP TT _ _ (fun hb=>?_) (fun hb=>?_))<;>try simp only [hb])|((first|refine aN TT E (bP _) rfl rfl ?_|refine aM TT _ _ (bP _) rfl rfl ?_);intro m hm;try dsimp only at hm)|((first|refine aN TT E (bH _ _) rfl rfl ?_|refine aM TT _ _ (bH _ _) rfl rfl ?_);intro m hm;try dsimp only at hm)|((first|refine aN TT E (contI _ _) rfl rfl ?_|refine aM TT _ _ (contI _ _) rfl rfl ?_);intro m hm;try dsimp only at hm)|((first|refine aN TT E (cB _ _ _) rfl rfl ?_|refine aM TT _ _ (cB _ _ _) rfl rfl ?_);intro m hm;try dsimp only at hm))<;>simp only [go_sem,↓reduceIte,aG,aH,a7,aA,aC,aD,aB,aE,a8,reduceCtorEq,aF,aI,aJ,aK,aL,hpk2])))
  simp only [List.drop_succ_cons,List.drop_zero]
  have hhl:=WX_hole hl2 hnd2 hx2 hp2
  obtain ⟨hpn2,hpm2⟩:=holeT_ne hnd2 hp2
  dsimp only at hpn2 hpm2 hhl
  have hlast : ∀ z ∈ tksW (ps.set tn (m1,p.2)),z < m1 + 1:=fun z hz=>by
    rcases dE m1 hp hz with rfl|hz
    · omega
    · have:=(hbd z (cD hz)).2;omega
  refine sem_inI (r:=8) (j:=0) [] sortI rfl rfl hXg2 rfl (by decide) (by simp) (by simp;omega) ?_ ?_ ?_ hhl ?_ hk rfl rfl (.inr ⟨_,rfl,by decide,by simp⟩) ?_
  · simp
  · simp only [List.mem_cons];exact .inr hpm2
  · first|omega|(dsimp only;omega)
  · intro z hz
    refine ⟨by simp only [List.mem_cons];exact .inr (cD hz),fun e=>hpn2 (e ▸ hz)⟩
  refine sem_nil ?_
  have hso : sortF (x.groups ++ [g]) = insG g x.groups:=sort_ins (pw_asc (cW h0 hx).1) h3'
  have hN : (encN : Int → List DV) = encI:=rfl
  have hset2:=WX_set (insG g x.groups) (m1 + 1 + 1) hx2 hp2
  dsimp only at hset2
  simp only [List.set_cons_zero,hso,hN,hset2]
  have hl3 : ((w.set tn ⟨x.groups ++ [g],x.fields⟩).set tn ⟨insG g x.groups,x.fields⟩).length = ((ps.set tn (m1,p.2)).set tn (m1 + 1 + 1,p.2)).length:=by simp [hpl]
  have hnd3:=tksW_nd (m1 + 1 + 1) hp2 hnd2 (fun h=>by have:=hlast _ h;omega)
  dsimp only at hnd3
  have hmem3 : ∀ z ∈ tksW ((ps.set tn (m1,p.2)).set tn (m1 + 1 + 1,p.2)),z = m1 + 1 + 1 ∨ z ∈ holeT (ps.set tn (m1,p.2)) tn:=fun z hz=>dE (m1 + 1 + 1) hp2 hz
  (repeat' (first|with_reducible (first|refine bC ?_|refine b6 ?_|refine b9 ?_|refine bA ?_|refine bD ?_|refine aT ?_|refine b8 ?_|refine aY ?_|refine aS ?_|refine b5 ?_|refine aU ?_|refine b4 rfl ?_|(refine hK _ ?_;clear K hK)|refine aZ rfl ?_|refine aX rfl ?_|intro hfact)|(with_reducible refine And.intro ?_ ?_;focus (first|assumption|omega|(simp;done)|((repeat' apply And.intro)<;>first|assumption|omega)|((repeat' split)<;>omega)))|((first|with_reducible (first|((refine bB TT ?_);intro K hK)|((refine aW TT ?_);intro K hK)|((refine b7 TT [] MX (by kernel_rfl) (by kernel_rfl) ?_);intro K hK)|((refine aV TT [] MX (by kernel_rfl) (by kernel_rfl) ?_);intro K hK))|(with_reducible (first|refine aR TT E (fun hb=>?_) (fun hb=>?_)|refine aQ TT E (fun hb=>?_) (fun hb=>?_)|refine aO TT _ _ (fun hb=>?_) (fun hb=>?_)|refine aP TT _ _ (fun hb=>?_) (fun hb=>?_))<;>try simp only [hb])|((first|refine aN TT E (bP _) rfl rfl ?_|refine aM TT _ _ (bP _) rfl rfl ?_);intro m hm;try dsimp only at hm)|((first|refine aN TT E (bH _ _) rfl rfl ?_|refine aM TT _ _ (bH _ _) rfl rfl ?_);intro m hm;try dsimp only at hm)|((first|refine aN TT E (contI _ _) rfl rfl ?_|refine aM TT _ _ (contI _ _) rfl rfl ?_);intro m hm;try dsimp only at hm)|((first|refine aN TT E (cB _ _ _) rfl rfl ?_|refine aM TT _ _ (cB _ _ _) rfl rfl ?_);intro m hm;try dsimp only at hm))<;>simp only [go_sem,↓reduceIte,aG,aH,a7,aA,aC,aD,aB,aE,a8,reduceCtorEq,aF,aI,aJ,aK,aL])))
  refine cU TT (m:=0) (toks:=(m1 + 1) :: tksW ((ps.set tn (m1,p.2)).set tn (m1 + 1 + 1,p.2))) (by simp only [go_sem,↓reduceIte,a7,aA,aB,a8,reduceCtorEq,Try.results17];rfl) (by simp) (by
    intro z hz
    simp only [List.mem_cons] at hz ⊢
    rcases hz with rfl|hz
    · exact .inr (.inl rfl)
    · rcases hmem3 z hz with rfl|hz
      · exact .inl rfl
      · exact .inr (.inr hz)) rfl ⟨rfl,?_,?_,?_,?_⟩
  · refine show ownD _ _ from d8 (fun h=>?_) (WX_own _ _ hl3 hnd3)
    rcases hmem3 _ h with h|h
    · omega
    · have:=hlast _ (cD h);omega
  · intro z hz
    rcases List.mem_cons.1 hz with rfl|hz
    · dsimp only;omega
    · rcases hmem3 z hz with rfl|hz
      · dsimp only;omega
      · have h9:=cD hz
        have:=hlast z h9
        rcases dE m1 hp h9 with rfl|h8
        · dsimp only;omega
        · have:=(hbd z (cD h8)).1
          dsimp only;omega
  · have her:=WX_er _ _ hl3
    simp only [List.set_set] at her
    simp [resV,joinA,joinB,h0,h1,h2,hx,h3',AV.erR,AV.er,DV.er,her,List.map_set]
  · dsimp only;omega
end Go.Proofs.Ytdfbaedkcfhdfaa
