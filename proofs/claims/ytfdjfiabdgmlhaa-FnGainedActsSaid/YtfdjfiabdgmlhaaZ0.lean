import Derived.Test.YtfdjfiabdgmlhaaP0
open Int renaming reduceToNat → aF,reduceBEq → aG,reduceBNe → aH,reduceNeg → aI,reduceEq → aJ,reduceLE → aK,reduceLT → aL
open Nat renaming reduceEqDiff → a7,reduceLeDiff → a8,reduceAdd → aA,reduceLT → aB,reduceMul → aC,reduceSub → aD,reduceBEq → aE
namespace Go.Proofs.Ytfdjfiabdgmlhaa
open Go Go.AL
set_option linter.unusedSimpArgs false
set_option linter.unusedVariables false
def idxGo {α : Type} (q : α → Bool) : Nat → List α → List Int
  | _,[]=>[]
  | k,x :: l=>if q x then (k : Int) :: idxGo q (k + 1) l else idxGo q (k + 1) l
def idxF {α : Type} (q : α → Bool) (l : List α) : List Int:=idxGo q 0 l
theorem idxGo_app {α : Type} (q : α → Bool) (x : α) : ∀ (l : List α) (k : Nat),idxGo q k (l ++ [x]) = idxGo q k l ++ if q x then [((k + l.length : Nat) : Int)] else []
  | [],k=>by by_cases h : q x<;>simp [idxGo,h]
  | y :: l,k=>by
    have:=idxGo_app q x l (k + 1)
    rw [List.cons_append,idxGo,idxGo,this]
    by_cases h : q y<;>simp [h,Nat.add_comm,Nat.add_left_comm]
theorem idxF_app {α : Type} (q : α → Bool) (l : List α) (x : α) : idxF q (l ++ [x]) = idxF q l ++ if q x then [(l.length : Int)] else []:=by
  have:=idxGo_app q x l 0
  simpa [idxF] using this
theorem idxGo_len {α : Type} (q : α → Bool) : ∀ (l : List α) (k : Nat),(idxGo q k l).length ≤ l.length
  | [],_=>by simp [idxGo]
  | x :: l,k=>by
    have:=idxGo_len q l (k + 1)
    rw [idxGo];split<;>simp<;>omega
theorem fV {α : Type} (q : α → Bool) (l : List α) : (idxF q l).length ≤ l.length:=idxGo_len q l 0
def eP (w : List Thing) (r : Request) (p : Policy) : Bool:=decide (applB w r p < 0)
def eQ (w : List Thing) (r : Request) (p : Policy) : Bool:=decide (applB w r p = 1) && p.allow
def dY (w : List Thing) (r : Request) (p : Policy) : Bool:=decide (applB w r p = 1) && !p.allow
structure Decision where
  allow : Bool
  why : List Int
  faults : List Int
deriving DecidableEq
def decG (w : List Thing) (r : Request) (l : List Policy) : Decision :=
  if 0 < (idxF (dY w r) l).length then ⟨false,idxF (dY w r) l,idxF (eP w r) l⟩
  else ⟨decide (0 < (idxF (eQ w r) l).length),idxF (eQ w r) l,idxF (eP w r) l⟩
def decB (w : List Thing) (r : Request) (l : List Policy) : Decision:=if reqB w r && polsB l then decG w r l else ⟨false,[],[]⟩
theorem fU {q : Policy → Bool} {l : List Policy} {k : Nat} {x : Policy} (hk : k ≤ l.length) (h : l.take (k + 1) = l.take k ++ [x]) : (idxF q (l.take (k + 1))).map encI = (idxF q (l.take k)).map encI ++ if q x then [[.int .i64 (k : Int)]] else []:=by
  rw [h,idxF_app,List.map_append]
  congr 1
  rw [List.length_take,Nat.min_eq_left hk]
  split<;>simp [encI]
theorem pols_len {l : List Policy} (h : polsB l = true) : l.length ≤ 6:=by
  simp only [polsB,Bool.and_eq_true,decide_eq_true_eq] at h
  omega
def decAV (d : Decision) : AV:=.agg [.bool d.allow,.sl 1 (d.why.map encI) .no,.sl 1 (d.faults.map encI) .no]
theorem decide_ok (w : List Thing) (who act what : Int) (fs : List Field) (l : List Policy) : Gives Try.prog 23 [LT w,.agg [.int .i64 who,.int .i64 act,.int .i64 what,.sl 3 (fs.map encF) .no],LP l] (.agg [.bool (decB w ⟨who,act,what,fs⟩ l).allow,.sl 1 ((decB w ⟨who,act,what,fs⟩ l).why.map encI) .no,.sl 1 ((decB w ⟨who,act,what,fs⟩ l).faults.map encI) .no]):=by
  refine AC.erR ?_
  refine bF TT Try.call23 Try.func23 rfl (by simp [Try.ntmps23]) (by kernel_rfl) fun E hk=>?_
  cases h1 : reqB w ⟨who,act,what,fs⟩
  · (repeat' (first|with_reducible (first|refine bD ?_|refine b6 ?_|refine bB ?_|refine bC ?_|refine bE ?_|refine aT ?_|refine b7 ?_|refine aX ?_|refine aQ ?_|refine b4 ?_|refine aU ?_|refine aY rfl ?_|(refine hK _ ?_;clear K hK)|refine b5 rfl ?_|refine aZ rfl ?_|intro hfact)|(with_reducible refine And.intro ?_ ?_;focus (first|assumption|omega|(simp;done)|((repeat' apply And.intro)<;>first|assumption|omega)|((repeat' split)<;>omega)))|((first|with_reducible (first|((refine bA TT ?_);intro K hK)|((refine aW TT ?_);intro K hK)|((refine b8 TT [] MX (by kernel_rfl) (by kernel_rfl) ?_);intro K hK)|((refine aV TT [] MX (by kernel_rfl) (by kernel_rfl) ?_);intro K hK))|(with_reducible (first|refine aR TT E (fun hb=>?_) (fun hb=>?_)|refine aS TT E (fun hb=>?_) (fun hb=>?_)|refine aO TT _ _ (fun hb=>?_) (fun hb=>?_)|refine aP TT _ _ (fun hb=>?_) (fun hb=>?_))<;>try simp only [hb])|((first|refine aN TT E (d8 _ _ _ _ _ _ _ _ _ _ _ _ _ _) rfl rfl ?_|refine aM TT _ _ (d8 _ _ _ _ _ _ _ _ _ _ _ _ _ _) rfl rfl ?_);intro m hm;try dsimp only at hm)|((first|refine aN TT E (cS _) rfl rfl ?_|refine aM TT _ _ (cS _) rfl rfl ?_);intro m hm;try dsimp only at hm)|((first|refine aN TT E (cW _ _ _ _ _) rfl rfl ?_|refine aM TT _ _ (cW _ _ _ _ _) rfl rfl ?_);intro m hm;try dsimp only at hm))<;>simp only [go_sem,↓reduceIte,aG,aH,a7,aA,aC,aD,aB,aE,a8,reduceCtorEq,aF,aI,aJ,aK,aL,h1])))
    refine bY TT (by simp only [go_sem,↓reduceIte,a7,aA,aB,a8,reduceCtorEq,Try.results23];rfl) rfl ?_;simp [resV,decB,h1,AV.erR,AV.er,erL,DV.er,erLL]
  cases h2 : polsB l
  · (repeat' (first|with_reducible (first|refine bD ?_|refine b6 ?_|refine bB ?_|refine bC ?_|refine bE ?_|refine aT ?_|refine b7 ?_|refine aX ?_|refine aQ ?_|refine b4 ?_|refine aU ?_|refine aY rfl ?_|(refine hK _ ?_;clear K hK)|refine b5 rfl ?_|refine aZ rfl ?_|intro hfact)|(with_reducible refine And.intro ?_ ?_;focus (first|assumption|omega|(simp;done)|((repeat' apply And.intro)<;>first|assumption|omega)|((repeat' split)<;>omega)))|((first|with_reducible (first|((refine bA TT ?_);intro K hK)|((refine aW TT ?_);intro K hK)|((refine b8 TT [] MX (by kernel_rfl) (by kernel_rfl) ?_);intro K hK)|((refine aV TT [] MX (by kernel_rfl) (by kernel_rfl) ?_);intro K hK))|(with_reducible (first|refine aR TT E (fun hb=>?_) (fun hb=>?_)|refine aS TT E (fun hb=>?_) (fun hb=>?_)|refine aO TT _ _ (fun hb=>?_) (fun hb=>?_)|refine aP TT _ _ (fun hb=>?_) (fun hb=>?_))<;>try simp only [hb])|((first|refine aN TT E (d8 _ _ _ _ _ _ _ _ _ _ _ _ _ _) rfl rfl ?_|refine aM TT _ _ (d8 _ _ _ _ _ _ _ _ _ _ _ _ _ _) rfl rfl ?_);intro m hm;try dsimp only at hm)|((first|refine aN TT E (cS _) rfl rfl ?_|refine aM TT _ _ (cS _) rfl rfl ?_);intro m hm;try dsimp only at hm)|((first|refine aN TT E (cW _ _ _ _ _) rfl rfl ?_|refine aM TT _ _ (cW _ _ _ _ _) rfl rfl ?_);intro m hm;try dsimp only at hm))<;>simp only [go_sem,↓reduceIte,aG,aH,a7,aA,aC,aD,aB,aE,a8,reduceCtorEq,aF,aI,aJ,aK,aL,h1,h2])))
    refine bY TT (by simp only [go_sem,↓reduceIte,a7,aA,aB,a8,reduceCtorEq,Try.results23];rfl) rfl ?_;simp [resV,decB,h1,h2,AV.erR,AV.er,erL,DV.er,erLL]
  rw [show decB w ⟨who,act,what,fs⟩ l = decG w ⟨who,act,what,fs⟩ l by simp [decB,h1,h2]]
  have hl6:=pols_len h2
  (repeat' (first|with_reducible (first|refine bD ?_|refine b6 ?_|refine bB ?_|refine bC ?_|refine bE ?_|refine aT ?_|refine b7 ?_|refine aX ?_|refine aQ ?_|refine b4 ?_|refine aU ?_|refine aY rfl ?_|(refine hK _ ?_;clear K hK)|refine b5 rfl ?_|refine aZ rfl ?_|intro hfact)|(with_reducible refine And.intro ?_ ?_;focus (first|assumption|omega|(simp;done)|((repeat' apply And.intro)<;>first|assumption|omega)|((repeat' split)<;>omega)))|((first|with_reducible (first|((refine bA TT ?_);intro K hK)|((refine aW TT ?_);intro K hK)|((refine b8 TT [] MX (by kernel_rfl) (by kernel_rfl) ?_);intro K hK)|((refine aV TT [] MX (by kernel_rfl) (by kernel_rfl) ?_);intro K hK))|(with_reducible (first|refine aR TT E (fun hb=>?_) (fun hb=>?_)|refine aS TT E (fun hb=>?_) (fun hb=>?_)|refine aO TT _ _ (fun hb=>?_) (fun hb=>?_)|refine aP TT _ _ (fun hb=>?_) (fun hb=>?_))<;>try simp only [hb])|((first|refine aN TT E (d8 _ _ _ _ _ _ _ _ _ _ _ _ _ _) rfl rfl ?_|refine aM TT _ _ (d8 _ _ _ _ _ _ _ _ _ _ _ _ _ _) rfl rfl ?_);intro m hm;try dsimp only at hm)|((first|refine aN TT E (cS _) rfl rfl ?_|refine aM TT _ _ (cS _) rfl rfl ?_);intro m hm;try dsimp only at hm)|((first|refine aN TT E (cW _ _ _ _ _) rfl rfl ?_|refine aM TT _ _ (cW _ _ _ _ _) rfl rfl ?_);intro m hm;try dsimp only at hm))<;>simp only [go_sem,↓reduceIte,aG,aH,a7,aA,aC,aD,aB,aE,a8,reduceCtorEq,aF,aI,aJ,aK,aL,h1,h2])))
  refine cA (l) (List.length (l)) 2 [] [0,4,6,23,24] (fun k o=>[(7,LI (idxF (eQ w (⟨who,act,what,fs⟩ : Request)) (l.take k)) o.1),(8,LI (idxF (dY w (⟨who,act,what,fs⟩ : Request)) (l.take k)) o.2.1),(9,LI (idxF (eP w (⟨who,act,what,fs⟩ : Request)) (l.take k)) o.2.2),(25,I k)]) (fun obs k o=>obs) (fun k o=>tkOf o.1 ++ (tkOf o.2.1 ++ tkOf o.2.2)) (fun k rest o nt=>own3 o.1 o.2.1 o.2.2 nt) ((.full,.full,.full)) (by first|rfl|(simp;done)|(simp;omega)) (by first|rfl|(simp only [go_sem,↓reduceIte,a7,aA,aB,a8,reduceCtorEq];done)|(simp only [go_sem,↓reduceIte,a7,aA,aB,a8,reduceCtorEq];simp;done)) (by simp only [go_sem,↓reduceIte,a7,aA,aB,a8,reduceCtorEq];rfl) (by first|rfl|(simp only [go_sem,↓reduceIte,a7,aA,aB,a8,reduceCtorEq];rfl)) (own3_0 _) (by unfold ASubW;simp only [go_sem,↓reduceIte,a7,aA,aB,a8,reduceCtorEq,hk];try simp [tkOf,LI,idxF,idxGo,cM]) ?_ ?_
  · rintro o nt hmax hinv
    rw [List.take_length]
    (repeat' (first|with_reducible (first|refine bD ?_|refine b6 ?_|refine bB ?_|refine bC ?_|refine bE ?_|refine aT ?_|refine b7 ?_|refine aX ?_|refine aQ ?_|refine b4 ?_|refine aU ?_|refine aY rfl ?_|(refine hK _ ?_;clear K hK)|refine b5 rfl ?_|refine aZ rfl ?_|intro hfact)|(with_reducible refine And.intro ?_ ?_;focus (first|assumption|omega|(simp;done)|((repeat' apply And.intro)<;>first|assumption|omega)|((repeat' split)<;>omega)))|((first|with_reducible (first|((refine bA TT ?_);intro K hK)|((refine aW TT ?_);intro K hK)|((refine b8 TT [] MX (by kernel_rfl) (by kernel_rfl) ?_);intro K hK)|((refine aV TT [] MX (by kernel_rfl) (by kernel_rfl) ?_);intro K hK))|(with_reducible (first|refine aR TT E (fun hb=>?_) (fun hb=>?_)|refine aS TT E (fun hb=>?_) (fun hb=>?_)|refine aO TT _ _ (fun hb=>?_) (fun hb=>?_)|refine aP TT _ _ (fun hb=>?_) (fun hb=>?_))<;>try simp only [hb])|((first|refine aN TT E (d8 _ _ _ _ _ _ _ _ _ _ _ _ _ _) rfl rfl ?_|refine aM TT _ _ (d8 _ _ _ _ _ _ _ _ _ _ _ _ _ _) rfl rfl ?_);intro m hm;try dsimp only at hm)|((first|refine aN TT E (cS _) rfl rfl ?_|refine aM TT _ _ (cS _) rfl rfl ?_);intro m hm;try dsimp only at hm)|((first|refine aN TT E (cW _ _ _ _ _) rfl rfl ?_|refine aM TT _ _ (cW _ _ _ _ _) rfl rfl ?_);intro m hm;try dsimp only at hm))<;>simp only [go_sem,↓reduceIte,aG,aH,a7,aA,aC,aD,aB,aE,a8,reduceCtorEq,aF,aI,aJ,aK,aL])|refine bL rfl (fun hb=>?_) (fun hb=>?_)|refine bK rfl (fun hb=>?_) (fun hb=>?_)|refine bH rfl (fun hb=>?_) (fun hb=>?_)))
    all_goals (refine bY TT (by simp only [go_sem,↓reduceIte,a7,aA,aB,a8,reduceCtorEq,Try.results23];rfl) rfl ?_;simp_all [resV,decG,AV.erR,AV.er,erL,DV.er,fY])
  · rintro k x rest o nt hA hinv
    have ha:=fU (q:=eQ w (⟨who,act,what,fs⟩ : Request)) hA.le hA.snoc
    have hf:=fU (q:=dY w (⟨who,act,what,fs⟩ : Request)) hA.le hA.snoc
    have hu:=fU (q:=eP w (⟨who,act,what,fs⟩ : Request)) hA.le hA.snoc
    have la : (idxF (eQ w (⟨who,act,what,fs⟩ : Request)) (l.take k)).length ≤ 6:=Nat.le_trans (fV _ _) (by simp;omega)
    have lf : (idxF (dY w (⟨who,act,what,fs⟩ : Request)) (l.take k)).length ≤ 6:=Nat.le_trans (fV _ _) (by simp;omega)
    have lu : (idxF (eP w (⟨who,act,what,fs⟩ : Request)) (l.take k)).length ≤ 6:=Nat.le_trans (fV _ _) (by simp;omega)
    obtain ⟨o1,o2,o3⟩:=o
    dsimp only at *
    have oa : ownOK o1 (tkOf o1 ++ (tkOf o2 ++ tkOf o3)):=cL hinv.1.1 (by intro t ht;simp [ht])
    have of : ownOK o2 (tkOf o1 ++ (tkOf o2 ++ tkOf o3)):=cL hinv.1.2.1 (by intro t ht;simp [ht])
    have ou : ownOK o3 (tkOf o1 ++ (tkOf o2 ++ tkOf o3)):=cL hinv.1.2.2 (by intro t ht;simp [ht])
    have hc:=applB_cases w (⟨who,act,what,fs⟩ : Request) x
    (repeat' (first|with_reducible (first|refine bD ?_|refine b6 ?_|refine bB ?_|refine bC ?_|refine bE ?_|refine aT ?_|refine b7 ?_|refine aX ?_|refine aQ ?_|refine b4 ?_|refine aU ?_|refine aY rfl ?_|(refine hK _ ?_;clear K hK)|refine b5 rfl ?_|refine aZ rfl ?_|intro hfact)|(with_reducible refine And.intro ?_ ?_;focus (first|assumption|omega|(simp;done)|((repeat' apply And.intro)<;>first|assumption|omega)|((repeat' split)<;>omega)))|((first|with_reducible (first|((refine bA TT ?_);intro K hK)|((refine aW TT ?_);intro K hK)|((refine b8 TT [] MX (by kernel_rfl) (by kernel_rfl) ?_);intro K hK)|((refine aV TT [] MX (by kernel_rfl) (by kernel_rfl) ?_);intro K hK))|(with_reducible (first|refine aR TT E (fun hb=>?_) (fun hb=>?_)|refine aS TT E (fun hb=>?_) (fun hb=>?_)|refine aO TT _ _ (fun hb=>?_) (fun hb=>?_)|refine aP TT _ _ (fun hb=>?_) (fun hb=>?_))<;>try simp only [hb])|((first|refine aN TT E (d8 _ _ _ _ _ _ _ _ _ _ _ _ _ _) rfl rfl ?_|refine aM TT _ _ (d8 _ _ _ _ _ _ _ _ _ _ _ _ _ _) rfl rfl ?_);intro m hm;try dsimp only at hm)|((first|refine aN TT E (cS _) rfl rfl ?_|refine aM TT _ _ (cS _) rfl rfl ?_);intro m hm;try dsimp only at hm)|((first|refine aN TT E (cW _ _ _ _ _) rfl rfl ?_|refine aM TT _ _ (cW _ _ _ _ _) rfl rfl ?_);intro m hm;try dsimp only at hm))<;>simp only [go_sem,↓reduceIte,aG,aH,a7,aA,aC,aD,aB,aE,a8,reduceCtorEq,aF,aI,aJ,aK,aL,hA.d,hA.w,hA.lt,hA.g,cC,Policy.eta,Expr.eta])|refine bL rfl (fun hb=>?_) (fun hb=>?_)|refine bK rfl (fun hb=>?_) (fun hb=>?_)|refine bH rfl (fun hb=>?_) (fun hb=>?_)))
    all_goals (have hp:=own3_mono hinv hm;obtain ⟨_,p12,p13,p21,p23,p31,p32⟩:=hinv;have t1:=eq_true (tk3_a (n:=m) p21 p31);have t2:=eq_true (tk3_b (n:=m) p12 p32);have t3:=eq_true (tk3_c (n:=m) p13 p23))
    all_goals (rcases hc with hv|hv|hv<;>cases hv2 : x.allow<;>first|(exfalso;omega)|(exfalso;clear ha hf hu la lf lu oa of ou hA t1 t2 t3;simp_all;done)|skip)
    all_goals simp [eQ,dY,eP,hv,hv2] at ha hf hu
    · refine ⟨(o1,o2,.tok m),own3_c hp,(by unfold ASubW;simp only [go_sem,↓reduceIte,a7,aA,aB,a8,reduceCtorEq,hk,LI,ha,hf,hu,t3];try simp)⟩
    · refine ⟨(o1,o2,.tok m),own3_c hp,(by unfold ASubW;simp only [go_sem,↓reduceIte,a7,aA,aB,a8,reduceCtorEq,hk,LI,ha,hf,hu,t3];try simp)⟩
    · refine ⟨(.tok m,o2,o3),own3_a hp,(by unfold ASubW;simp only [go_sem,↓reduceIte,a7,aA,aB,a8,reduceCtorEq,hk,LI,ha,hf,hu,t1];try simp)⟩
    · refine ⟨(o1,.tok m,o3),own3_b hp,(by unfold ASubW;simp only [go_sem,↓reduceIte,a7,aA,aB,a8,reduceCtorEq,hk,LI,ha,hf,hu,t2];try simp)⟩
    · refine ⟨(o1,o2,o3),hp,(by unfold ASubW;simp only [go_sem,↓reduceIte,a7,aA,aB,a8,reduceCtorEq,hk,LI,ha,hf,hu];try simp)⟩
    · refine ⟨(o1,o2,o3),hp,(by unfold ASubW;simp only [go_sem,↓reduceIte,a7,aA,aB,a8,reduceCtorEq,hk,LI,ha,hf,hu];try simp)⟩
theorem dL (w : List Thing) (who act what : Int) (fs : List Field) (l : List Policy) (Hl : smallP l) (H6 : l.length ≤ 6) : Gives Try.prog 73 [LT w,.agg [.int .i64 who,.int .i64 act,.int .i64 what,.sl 3 (fs.map encF) .no],LP l] (.agg [.bool (decG w ⟨who,act,what,fs⟩ l).allow,.sl 1 ((decG w ⟨who,act,what,fs⟩ l).why.map encI) .no,.sl 1 ((decG w ⟨who,act,what,fs⟩ l).faults.map encI) .no]):=by
  refine AC.erR ?_
  refine bF TT Try.call73 Try.func73 rfl (by simp [Try.ntmps73]) (by kernel_rfl) fun E hk=>?_
  (repeat' (first|with_reducible (first|refine bD ?_|refine b6 ?_|refine bB ?_|refine bC ?_|refine bE ?_|refine aT ?_|refine b7 ?_|refine aX ?_|refine aQ ?_|refine b4 ?_|refine aU ?_|refine aY rfl ?_|(refine hK _ ?_;clear K hK)|refine b5 rfl ?_|refine aZ rfl ?_|intro hfact)|(with_reducible refine And.intro ?_ ?_;focus (first|assumption|omega|(simp;done)|((repeat' apply And.intro)<;>first|assumption|omega)|((repeat' split)<;>omega)))|((first|with_reducible (first|((refine bA TT ?_);intro K hK)|((refine aW TT ?_);intro K hK)|((refine b8 TT [] MX (by kernel_rfl) (by kernel_rfl) ?_);intro K hK)|((refine aV TT [] MX (by kernel_rfl) (by kernel_rfl) ?_);intro K hK))|(with_reducible (first|refine aR TT E (fun hb=>?_) (fun hb=>?_)|refine aS TT E (fun hb=>?_) (fun hb=>?_)|refine aO TT _ _ (fun hb=>?_) (fun hb=>?_)|refine aP TT _ _ (fun hb=>?_) (fun hb=>?_))<;>try simp only [hb])|((first|refine aN TT E (eE _ _ _ _ _ _ _ _ _ _ _ _ _ _ (by first|assumption|omega|(refine (?_ : (0 : Int) ≤ _ → _) ?_<;>first|assumption|omega)|(simp;done)|(simp;omega))) rfl rfl ?_|refine aM TT _ _ (eE _ _ _ _ _ _ _ _ _ _ _ _ _ _ (by first|assumption|omega|(refine (?_ : (0 : Int) ≤ _ → _) ?_<;>first|assumption|omega)|(simp;done)|(simp;omega))) rfl rfl ?_);intro m hm;try dsimp only at hm))<;>simp only [go_sem,↓reduceIte,aG,aH,a7,aA,aC,aD,aB,aE,a8,reduceCtorEq,aF,aI,aJ,aK,aL])))
  refine cA (l) (List.length (l)) 2 [] [0,2,4,6,7] (fun k o=>[(8,LI (idxF (eQ w (⟨who,act,what,fs⟩ : Request)) (l.take k)) o.1),(9,I k)]) (fun obs k o=>[.cells [.int .i64 who,.int .i64 act,.int .i64 what,.sl 3 (fs.map encF) .no],.cells [.bool false,.sl 1 [] .full,.sl 1 [] .full],.cells [.bool false,.sl 1 ((idxF (dY w (⟨who,act,what,fs⟩ : Request)) (l.take k)).map encI) o.2.1,.sl 1 ((idxF (eP w (⟨who,act,what,fs⟩ : Request)) (l.take k)).map encI) o.2.2]]) (fun k o=>tkOf o.1 ++ (tkOf o.2.1 ++ tkOf o.2.2)) (fun k rest o nt=>own3 o.1 o.2.1 o.2.2 nt) ((.full,.full,.full)) (by first|rfl|(simp;done)|(simp;omega)) (by first|rfl|(simp only [go_sem,↓reduceIte,a7,aA,aB,a8,reduceCtorEq];done)|(simp only [go_sem,↓reduceIte,a7,aA,aB,a8,reduceCtorEq];simp;done)) (by simp only [go_sem,↓reduceIte,a7,aA,aB,a8,reduceCtorEq];rfl) (by first|rfl|(simp only [go_sem,↓reduceIte,a7,aA,aB,a8,reduceCtorEq];rfl)) (own3_0 _) (by unfold ASubW;simp only [go_sem,↓reduceIte,a7,aA,aB,a8,reduceCtorEq,hk];try simp [tkOf,LI,idxF,idxGo,cM]) ?_ ?_
  · rintro o nt hmax hinv
    rw [List.take_length]
    (repeat' (first|with_reducible (first|refine bD ?_|refine b6 ?_|refine bB ?_|refine bC ?_|refine bE ?_|refine aT ?_|refine b7 ?_|refine aX ?_|refine aQ ?_|refine b4 ?_|refine aU ?_|refine aY rfl ?_|(refine hK _ ?_;clear K hK)|refine b5 rfl ?_|refine aZ rfl ?_|intro hfact)|(with_reducible refine And.intro ?_ ?_;focus (first|assumption|omega|(simp;done)|((repeat' apply And.intro)<;>first|assumption|omega)|((repeat' split)<;>omega)))|((first|with_reducible (first|((refine bA TT ?_);intro K hK)|((refine aW TT ?_);intro K hK)|((refine b8 TT [] MX (by kernel_rfl) (by kernel_rfl) ?_);intro K hK)|((refine aV TT [] MX (by kernel_rfl) (by kernel_rfl) ?_);intro K hK))|(with_reducible (first|refine aR TT E (fun hb=>?_) (fun hb=>?_)|refine aS TT E (fun hb=>?_) (fun hb=>?_)|refine aO TT _ _ (fun hb=>?_) (fun hb=>?_)|refine aP TT _ _ (fun hb=>?_) (fun hb=>?_))<;>try simp only [hb])|((first|refine aN TT E (eE _ _ _ _ _ _ _ _ _ _ _ _ _ _ (by first|assumption|omega|(refine (?_ : (0 : Int) ≤ _ → _) ?_<;>first|assumption|omega)|(simp;done)|(simp;omega))) rfl rfl ?_|refine aM TT _ _ (eE _ _ _ _ _ _ _ _ _ _ _ _ _ _ (by first|assumption|omega|(refine (?_ : (0 : Int) ≤ _ → _) ?_<;>first|assumption|omega)|(simp;done)|(simp;omega))) rfl rfl ?_);intro m hm;try dsimp only at hm))<;>simp only [go_sem,↓reduceIte,aG,aH,a7,aA,aC,aD,aB,aE,a8,reduceCtorEq,aF,aI,aJ,aK,aL])|refine bL rfl (fun hb=>?_) (fun hb=>?_)|refine bK rfl (fun hb=>?_) (fun hb=>?_)|refine bH rfl (fun hb=>?_) (fun hb=>?_)))
    all_goals (refine bY TT (by simp only [go_sem,↓reduceIte,a7,aA,aB,a8,reduceCtorEq,Try.results73];rfl) rfl ?_;simp_all [resV,decG,AV.erR,AV.er,erL,erLL,DV.er,fY,List.length_pos_iff])
  · rintro k x rest o nt hA hinv
    have ha:=fU (q:=eQ w (⟨who,act,what,fs⟩ : Request)) hA.le hA.snoc
    have hf:=fU (q:=dY w (⟨who,act,what,fs⟩ : Request)) hA.le hA.snoc
    have hu:=fU (q:=eP w (⟨who,act,what,fs⟩ : Request)) hA.le hA.snoc
    have la : (idxF (eQ w (⟨who,act,what,fs⟩ : Request)) (l.take k)).length ≤ 6:=Nat.le_trans (fV _ _) (by simp;omega)
    have lf : (idxF (dY w (⟨who,act,what,fs⟩ : Request)) (l.take k)).length ≤ 6:=Nat.le_trans (fV _ _) (by simp;omega)
    have lu : (idxF (eP w (⟨who,act,what,fs⟩ : Request)) (l.take k)).length ≤ 6:=Nat.le_trans (fV _ _) (by simp;omega)
    have hx : cntE (.mk x.when.kind x.when.number x.when.name x.when.parts) ≤ 4611686018427387904:=by rw [Expr.eta];have:=Hl x hA.mem;omega
    obtain ⟨o1,o2,o3⟩:=o
    dsimp only at *
    have oa : ownOK o1 (tkOf o1 ++ (tkOf o2 ++ tkOf o3)):=cL hinv.1.1 (by intro t ht;simp [ht])
    have of : ownOK o2 (tkOf o1 ++ (tkOf o2 ++ tkOf o3)):=cL hinv.1.2.1 (by intro t ht;simp [ht])
    have ou : ownOK o3 (tkOf o1 ++ (tkOf o2 ++ tkOf o3)):=cL hinv.1.2.2 (by intro t ht;simp [ht])
    have hc:=applB_cases w (⟨who,act,what,fs⟩ : Request) x
    (repeat' (first|with_reducible (first|refine bD ?_|refine b6 ?_|refine bB ?_|refine bC ?_|refine bE ?_|refine aT ?_|refine b7 ?_|refine aX ?_|refine aQ ?_|refine b4 ?_|refine aU ?_|refine aY rfl ?_|(refine hK _ ?_;clear K hK)|refine b5 rfl ?_|refine aZ rfl ?_|intro hfact)|(with_reducible refine And.intro ?_ ?_;focus (first|assumption|omega|(simp;done)|((repeat' apply And.intro)<;>first|assumption|omega)|((repeat' split)<;>omega)))|((first|with_reducible (first|((refine bA TT ?_);intro K hK)|((refine aW TT ?_);intro K hK)|((refine b8 TT [] MX (by kernel_rfl) (by kernel_rfl) ?_);intro K hK)|((refine aV TT [] MX (by kernel_rfl) (by kernel_rfl) ?_);intro K hK))|(with_reducible (first|refine aR TT E (fun hb=>?_) (fun hb=>?_)|refine aS TT E (fun hb=>?_) (fun hb=>?_)|refine aO TT _ _ (fun hb=>?_) (fun hb=>?_)|refine aP TT _ _ (fun hb=>?_) (fun hb=>?_))<;>try simp only [hb])|((first|refine aN TT E (eE _ _ _ _ _ _ _ _ _ _ _ _ _ _ (by first|assumption|omega|(refine (?_ : (0 : Int) ≤ _ → _) ?_<;>first|assumption|omega)|(simp;done)|(simp;omega))) rfl rfl ?_|refine aM TT _ _ (eE _ _ _ _ _ _ _ _ _ _ _ _ _ _ (by first|assumption|omega|(refine (?_ : (0 : Int) ≤ _ → _) ?_<;>first|assumption|omega)|(simp;done)|(simp;omega))) rfl rfl ?_);intro m hm;try dsimp only at hm))<;>simp only [go_sem,↓reduceIte,aG,aH,a7,aA,aC,aD,aB,aE,a8,reduceCtorEq,aF,aI,aJ,aK,aL,hA.d,hA.w,hA.lt,hA.g,cC,Policy.eta,Expr.eta])|refine bL rfl (fun hb=>?_) (fun hb=>?_)|refine bK rfl (fun hb=>?_) (fun hb=>?_)|refine bH rfl (fun hb=>?_) (fun hb=>?_)))
    all_goals (have hp:=own3_mono hinv hm;obtain ⟨_,p12,p13,p21,p23,p31,p32⟩:=hinv;have t1:=eq_true (tk3_a (n:=m) p21 p31);have t2:=eq_true (tk3_b (n:=m) p12 p32);have t3:=eq_true (tk3_c (n:=m) p13 p23))
    all_goals (rcases hc with hv|hv|hv<;>cases hv2 : x.allow<;>first|(exfalso;omega)|(exfalso;clear ha hf hu la lf lu oa of ou hA t1 t2 t3;simp_all;done)|skip)
    all_goals simp [eQ,dY,eP,hv,hv2] at ha hf hu
    · refine ⟨(o1,o2,.tok m),own3_c hp,(by unfold ASubW;simp only [go_sem,↓reduceIte,a7,aA,aB,a8,reduceCtorEq,hk,LI,ha,hf,hu,t3];try simp)⟩
    · refine ⟨(o1,o2,.tok m),own3_c hp,(by unfold ASubW;simp only [go_sem,↓reduceIte,a7,aA,aB,a8,reduceCtorEq,hk,LI,ha,hf,hu,t3];try simp)⟩
    · refine ⟨(.tok m,o2,o3),own3_a hp,(by unfold ASubW;simp only [go_sem,↓reduceIte,a7,aA,aB,a8,reduceCtorEq,hk,LI,ha,hf,hu,t1];try simp)⟩
    · refine ⟨(o1,.tok m,o3),own3_b hp,(by unfold ASubW;simp only [go_sem,↓reduceIte,a7,aA,aB,a8,reduceCtorEq,hk,LI,ha,hf,hu,t2];try simp)⟩
    · refine ⟨(o1,o2,o3),hp,(by unfold ASubW;simp only [go_sem,↓reduceIte,a7,aA,aB,a8,reduceCtorEq,hk,LI,ha,hf,hu];try simp)⟩
    · refine ⟨(o1,o2,o3),hp,(by unfold ASubW;simp only [go_sem,↓reduceIte,a7,aA,aB,a8,reduceCtorEq,hk,LI,ha,hf,hu];try simp)⟩
theorem bZ (w : List Thing) (who act what : Int) (fs : List Field) (l : List Policy) : Gives Try.prog 20 [LT w,.agg [.int .i64 who,.int .i64 act,.int .i64 what,.sl 3 (fs.map encF) .no],LP l] (B (decB w (⟨who,act,what,fs⟩ : Request) l).allow):=by
  refine bF TT Try.call20 Try.func20 rfl (by simp [Try.ntmps20]) (by kernel_rfl) fun E hk=>?_
  (repeat' (first|with_reducible (first|refine bD ?_|refine b6 ?_|refine bB ?_|refine bC ?_|refine bE ?_|refine aT ?_|refine b7 ?_|refine aX ?_|refine aQ ?_|refine b4 ?_|refine aU ?_|refine aY rfl ?_|(refine hK _ ?_;clear K hK)|refine b5 rfl ?_|refine aZ rfl ?_|intro hfact)|(with_reducible refine And.intro ?_ ?_;focus (first|assumption|omega|(simp;done)|((repeat' apply And.intro)<;>first|assumption|omega)|((repeat' split)<;>omega)))|((first|with_reducible (first|((refine bA TT ?_);intro K hK)|((refine aW TT ?_);intro K hK)|((refine b8 TT [] MX (by kernel_rfl) (by kernel_rfl) ?_);intro K hK)|((refine aV TT [] MX (by kernel_rfl) (by kernel_rfl) ?_);intro K hK))|(with_reducible (first|refine aR TT E (fun hb=>?_) (fun hb=>?_)|refine aS TT E (fun hb=>?_) (fun hb=>?_)|refine aO TT _ _ (fun hb=>?_) (fun hb=>?_)|refine aP TT _ _ (fun hb=>?_) (fun hb=>?_))<;>try simp only [hb])|((first|refine aN TT E (decide_ok _ _ _ _ _ _) rfl rfl ?_|refine aM TT _ _ (decide_ok _ _ _ _ _ _) rfl rfl ?_);intro m hm;try dsimp only at hm))<;>simp only [go_sem,↓reduceIte,aG,aH,a7,aA,aC,aD,aB,aE,a8,reduceCtorEq,aF,aI,aJ,aK,aL])))
  refine bG TT (by simp only [go_sem,↓reduceIte,a7,aA,aB,a8,reduceCtorEq,Try.results20];rfl) rfl ?_;rfl
end Go.Proofs.Ytfdjfiabdgmlhaa
