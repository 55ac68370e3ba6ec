import Derived.Test.YtmlnpimlfbfkbaaGreatP0
open Int renaming reduceToNat → aE,reduceBEq → aF,reduceBNe → aG,reduceNeg → aH,reduceEq → aI,reduceLE → aJ,reduceLT → aK
open Nat renaming reduceEqDiff → a7,reduceLeDiff → a8,reduceAdd → a9,reduceLT → aA,reduceMul → aB,reduceSub → aC,reduceBEq → aD
namespace Go.Proofs.YtmlnpimlfbfkbaaGreat
open Go Go.AL
set_option linter.unusedSimpArgs false
set_option linter.unusedVariables false
def idxGo {α : Type} (q : α → Bool) : Nat → List α → List Int
  | _,[]=>[]
  | k,x :: l=>if q x then (k : Int) :: idxGo q (k + 1) l else idxGo q (k + 1) l
def idxF {α : Type} (q : α → Bool) (l : List α) : List Int:=idxGo q 0 l
theorem idxGo_app {α : Type} (q : α → Bool) (x : α) : ∀ (l : List α) (k : Nat),idxGo q k (l ++ [x]) = idxGo q k l ++ if q x then [((k + l.length : Nat) : Int)] else []
  | [],k=>by by_cases h : q x<;>simp [idxGo,h]
  | y :: l,k=>by
    have:=idxGo_app q x l (k + 1)
    rw [List.cons_append,idxGo,idxGo,this]
    by_cases h : q y<;>simp [h,Nat.add_comm,Nat.add_left_comm]
theorem idxF_app {α : Type} (q : α → Bool) (l : List α) (x : α) : idxF q (l ++ [x]) = idxF q l ++ if q x then [(l.length : Int)] else []:=by
  have:=idxGo_app q x l 0
  simpa [idxF] using this
theorem idxGo_len {α : Type} (q : α → Bool) : ∀ (l : List α) (k : Nat),(idxGo q k l).length ≤ l.length
  | [],_=>by simp [idxGo]
  | x :: l,k=>by
    have:=idxGo_len q l (k + 1)
    rw [idxGo];split<;>simp<;>omega
theorem j8 {α : Type} (q : α → Bool) (l : List α) : (idxF q l).length ≤ l.length:=idxGo_len q l 0
def hC (w : List Thing) (r : Request) (p : Policy) : Bool:=decide (applB w r p < 0)
def gZ (w : List Thing) (r : Request) (p : Policy) : Bool:=decide (applB w r p = 1) && p.allow
def fM (w : List Thing) (r : Request) (p : Policy) : Bool:=decide (applB w r p = 1) && !p.allow
structure Decision where
  allow : Bool
  why : List Int
  faults : List Int
deriving DecidableEq
def decG (w : List Thing) (r : Request) (l : List Policy) : Decision :=
  if 0 < (idxF (fM w r) l).length then ⟨false,idxF (fM w r) l,idxF (hC w r) l⟩
  else ⟨decide (0 < (idxF (gZ w r) l).length),idxF (gZ w r) l,idxF (hC w r) l⟩
def decB (w : List Thing) (r : Request) (l : List Policy) : Decision:=if reqB w r && polsB l then decG w r l else ⟨false,[],[]⟩
theorem jB {q : Policy → Bool} {l : List Policy} {k : Nat} {x : Policy} (hk : k ≤ l.length) (h : l.take (k + 1) = l.take k ++ [x]) : (idxF q (l.take (k + 1))).map encI = (idxF q (l.take k)).map encI ++ if q x then [[.int .i64 (k : Int)]] else []:=by
  rw [h,idxF_app,List.map_append]
  congr 1
  rw [List.length_take,Nat.min_eq_left hk]
  split<;>simp [encI]
theorem gJ {l : List Policy} (h : polsB l = true) : l.length ≤ 6:=by
  simp only [polsB,Bool.and_eq_true,decide_eq_true_eq] at h
  omega
def decAV (d : Decision) : AV:=.agg [.bool d.allow,.sl 1 (d.why.map encI) .no,.sl 1 (d.faults.map encI) .no]
theorem decide_ok (w : List Thing) (who act what : Int) (fs : List Field) (l : List Policy) : Gives Tryz.prog 26 [LT w,.agg [.int .i64 who,.int .i64 act,.int .i64 what,.sl 3 (fs.map encF) .no],LP l] (.agg [.bool (decB w ⟨who,act,what,fs⟩ l).allow,.sl 1 ((decB w ⟨who,act,what,fs⟩ l).why.map encI) .no,.sl 1 ((decB w ⟨who,act,what,fs⟩ l).faults.map encI) .no]):=by
  refine AC.erR ?_
  refine bD TT Tryz.call26 Tryz.func26 rfl (by simp [Tryz.ntmps26]) (by kernel_rfl) fun E hk=>?_
  cases h1 : reqB w ⟨who,act,what,fs⟩
  · (repeat' (first|with_reducible (first|refine bB ?_|refine b6 ?_|refine b8 ?_|refine b9 ?_|refine bC ?_|refine aS ?_|refine b5 ?_|refine aY ?_|refine aQ ?_|refine aZ ?_|refine aT ?_|refine b4 rfl ?_|(refine hK _ ?_;clear K hK)|refine aW rfl ?_|refine aX rfl ?_|intro hfact)|(with_reducible refine And.intro ?_ ?_;focus (first|assumption|omega|(simp;done)|((repeat' apply And.intro)<;>first|assumption|omega)|((repeat' split)<;>omega)))|((first|with_reducible (first|((refine bA TT ?_);intro K hK)|((refine aV TT ?_);intro K hK)|((refine b7 TT [] MX (by kernel_rfl) (by kernel_rfl) ?_);intro K hK)|((refine aU TT [] MX (by kernel_rfl) (by kernel_rfl) ?_);intro K hK))|(with_reducible (first|refine aR TT E (fun hb=>?_) (fun hb=>?_)|refine aP TT E (fun hb=>?_) (fun hb=>?_)|refine aO TT _ _ (fun hb=>?_) (fun hb=>?_)|refine aN TT _ _ (fun hb=>?_) (fun hb=>?_))<;>try simp only [hb])|((first|refine aM TT E (e7 _ _ _ _ _) rfl rfl ?_|refine aL TT _ _ (e7 _ _ _ _ _) rfl rfl ?_);intro m hm;try dsimp only at hm)|((first|refine aM TT E (c8 _) rfl rfl ?_|refine aL TT _ _ (c8 _) rfl rfl ?_);intro m hm;try dsimp only at hm)|((first|refine aM TT E (eG _ _ _ _ _ _ _ _ _ _ _ _ _ _) rfl rfl ?_|refine aL TT _ _ (eG _ _ _ _ _ _ _ _ _ _ _ _ _ _) rfl rfl ?_);intro m hm;try dsimp only at hm))<;>simp only [go_sem,↓reduceIte,aF,aG,a7,a9,aB,aC,aA,aD,a8,reduceCtorEq,aE,aH,aI,aJ,aK,h1])))
    refine bP TT (by simp only [go_sem,↓reduceIte,a7,a9,aA,a8,reduceCtorEq,Tryz.results26];rfl) rfl ?_;simp [resV,decB,h1,AV.erR,AV.er,erL,DV.er,erLL]
  cases h2 : polsB l
  · (repeat' (first|with_reducible (first|refine bB ?_|refine b6 ?_|refine b8 ?_|refine b9 ?_|refine bC ?_|refine aS ?_|refine b5 ?_|refine aY ?_|refine aQ ?_|refine aZ ?_|refine aT ?_|refine b4 rfl ?_|(refine hK _ ?_;clear K hK)|refine aW rfl ?_|refine aX rfl ?_|intro hfact)|(with_reducible refine And.intro ?_ ?_;focus (first|assumption|omega|(simp;done)|((repeat' apply And.intro)<;>first|assumption|omega)|((repeat' split)<;>omega)))|((first|with_reducible (first|((refine bA TT ?_);intro K hK)|((refine aV TT ?_);intro K hK)|((refine b7 TT [] MX (by kernel_rfl) (by kernel_rfl) ?_);intro K hK)|((refine aU TT [] MX (by kernel_rfl) (by kernel_rfl) ?_);intro K hK))|(with_reducible (first|refine aR TT E (fun hb=>?_) (fun hb=>?_)|refine aP TT E (fun hb=>?_) (fun hb=>?_)|refine aO TT _ _ (fun hb=>?_) (fun hb=>?_)|refine aN TT _ _ (fun hb=>?_) (fun hb=>?_))<;>try simp only [hb])|((first|refine aM TT E (e7 _ _ _ _ _) rfl rfl ?_|refine aL TT _ _ (e7 _ _ _ _ _) rfl rfl ?_);intro m hm;try dsimp only at hm)|((first|refine aM TT E (c8 _) rfl rfl ?_|refine aL TT _ _ (c8 _) rfl rfl ?_);intro m hm;try dsimp only at hm)|((first|refine aM TT E (eG _ _ _ _ _ _ _ _ _ _ _ _ _ _) rfl rfl ?_|refine aL TT _ _ (eG _ _ _ _ _ _ _ _ _ _ _ _ _ _) rfl rfl ?_);intro m hm;try dsimp only at hm))<;>simp only [go_sem,↓reduceIte,aF,aG,a7,a9,aB,aC,aA,aD,a8,reduceCtorEq,aE,aH,aI,aJ,aK,h1,h2])))
    refine bP TT (by simp only [go_sem,↓reduceIte,a7,a9,aA,a8,reduceCtorEq,Tryz.results26];rfl) rfl ?_;simp [resV,decB,h1,h2,AV.erR,AV.er,erL,DV.er,erLL]
  rw [show decB w ⟨who,act,what,fs⟩ l = decG w ⟨who,act,what,fs⟩ l by simp [decB,h1,h2]]
  have hl6:=gJ h2
  (repeat' (first|with_reducible (first|refine bB ?_|refine b6 ?_|refine b8 ?_|refine b9 ?_|refine bC ?_|refine aS ?_|refine b5 ?_|refine aY ?_|refine aQ ?_|refine aZ ?_|refine aT ?_|refine b4 rfl ?_|(refine hK _ ?_;clear K hK)|refine aW rfl ?_|refine aX rfl ?_|intro hfact)|(with_reducible refine And.intro ?_ ?_;focus (first|assumption|omega|(simp;done)|((repeat' apply And.intro)<;>first|assumption|omega)|((repeat' split)<;>omega)))|((first|with_reducible (first|((refine bA TT ?_);intro K hK)|((refine aV TT ?_);intro K hK)|((refine b7 TT [] MX (by kernel_rfl) (by kernel_rfl) ?_);intro K hK)|((refine aU TT [] MX (by kernel_rfl) (by kernel_rfl) ?_);intro K hK))|(with_reducible (first|refine aR TT E (fun hb=>?_) (fun hb=>?_)|refine aP TT E (fun hb=>?_) (fun hb=>?_)|refine aO TT _ _ (fun hb=>?_) (fun hb=>?_)|refine aN TT _ _ (fun hb=>?_) (fun hb=>?_))<;>try simp only [hb])|((first|refine aM TT E (e7 _ _ _ _ _) rfl rfl ?_|refine aL TT _ _ (e7 _ _ _ _ _) rfl rfl ?_);intro m hm;try dsimp only at hm)|((first|refine aM TT E (c8 _) rfl rfl ?_|refine aL TT _ _ (c8 _) rfl rfl ?_);intro m hm;try dsimp only at hm)|((first|refine aM TT E (eG _ _ _ _ _ _ _ _ _ _ _ _ _ _) rfl rfl ?_|refine aL TT _ _ (eG _ _ _ _ _ _ _ _ _ _ _ _ _ _) rfl rfl ?_);intro m hm;try dsimp only at hm))<;>simp only [go_sem,↓reduceIte,aF,aG,a7,a9,aB,aC,aA,aD,a8,reduceCtorEq,aE,aH,aI,aJ,aK,h1,h2])))
  refine bQ (l) (List.length (l)) 2 [] [0,4,6,23,24] (fun k o=>[(7,LI (idxF (gZ w (⟨who,act,what,fs⟩ : Request)) (l.take k)) o.1),(8,LI (idxF (fM w (⟨who,act,what,fs⟩ : Request)) (l.take k)) o.2.1),(9,LI (idxF (hC w (⟨who,act,what,fs⟩ : Request)) (l.take k)) o.2.2),(25,I k)]) (fun obs k o=>obs) (fun k o=>tkOf o.1 ++ (tkOf o.2.1 ++ tkOf o.2.2)) (fun k rest o nt=>own3 o.1 o.2.1 o.2.2 nt) ((.full,.full,.full)) (by first|rfl|(simp;done)|(simp;omega)) (by first|rfl|(simp only [go_sem,↓reduceIte,a7,a9,aA,a8,reduceCtorEq];done)|(simp only [go_sem,↓reduceIte,a7,a9,aA,a8,reduceCtorEq];simp;done)) (by simp only [go_sem,↓reduceIte,a7,a9,aA,a8,reduceCtorEq];rfl) (by first|rfl|(simp only [go_sem,↓reduceIte,a7,a9,aA,a8,reduceCtorEq];rfl)) (own3_0 _) (by unfold ASubW;simp only [go_sem,↓reduceIte,a7,a9,aA,a8,reduceCtorEq,hk];try simp [tkOf,LI,idxF,idxGo,d5]) ?_ ?_
  · rintro o nt hmax hinv
    rw [List.take_length]
    (repeat' (first|with_reducible (first|refine bB ?_|refine b6 ?_|refine b8 ?_|refine b9 ?_|refine bC ?_|refine aS ?_|refine b5 ?_|refine aY ?_|refine aQ ?_|refine aZ ?_|refine aT ?_|refine b4 rfl ?_|(refine hK _ ?_;clear K hK)|refine aW rfl ?_|refine aX rfl ?_|intro hfact)|(with_reducible refine And.intro ?_ ?_;focus (first|assumption|omega|(simp;done)|((repeat' apply And.intro)<;>first|assumption|omega)|((repeat' split)<;>omega)))|((first|with_reducible (first|((refine bA TT ?_);intro K hK)|((refine aV TT ?_);intro K hK)|((refine b7 TT [] MX (by kernel_rfl) (by kernel_rfl) ?_);intro K hK)|((refine aU TT [] MX (by kernel_rfl) (by kernel_rfl) ?_);intro K hK))|(with_reducible (first|refine aR TT E (fun hb=>?_) (fun hb=>?_)|refine aP TT E (fun hb=>?_) (fun hb=>?_)|refine aO TT _ _ (fun hb=>?_) (fun hb=>?_)|refine aN TT _ _ (fun hb=>?_) (fun hb=>?_))<;>try simp only [hb])|((first|refine aM TT E (e7 _ _ _ _ _) rfl rfl ?_|refine aL TT _ _ (e7 _ _ _ _ _) rfl rfl ?_);intro m hm;try dsimp only at hm)|((first|refine aM TT E (c8 _) rfl rfl ?_|refine aL TT _ _ (c8 _) rfl rfl ?_);intro m hm;try dsimp only at hm)|((first|refine aM TT E (eG _ _ _ _ _ _ _ _ _ _ _ _ _ _) rfl rfl ?_|refine aL TT _ _ (eG _ _ _ _ _ _ _ _ _ _ _ _ _ _) rfl rfl ?_);intro m hm;try dsimp only at hm))<;>simp only [go_sem,↓reduceIte,aF,aG,a7,a9,aB,aC,aA,aD,a8,reduceCtorEq,aE,aH,aI,aJ,aK])|refine bG rfl (fun hb=>?_) (fun hb=>?_)|refine bH rfl (fun hb=>?_) (fun hb=>?_)|refine bF rfl (fun hb=>?_) (fun hb=>?_)))
    all_goals (refine bP TT (by simp only [go_sem,↓reduceIte,a7,a9,aA,a8,reduceCtorEq,Tryz.results26];rfl) rfl ?_;simp_all [resV,decG,AV.erR,AV.er,erL,DV.er,fO])
  · rintro k x rest o nt hA hinv
    have ha:=jB (q:=gZ w (⟨who,act,what,fs⟩ : Request)) hA.le hA.snoc
    have hf:=jB (q:=fM w (⟨who,act,what,fs⟩ : Request)) hA.le hA.snoc
    have hu:=jB (q:=hC w (⟨who,act,what,fs⟩ : Request)) hA.le hA.snoc
    have la : (idxF (gZ w (⟨who,act,what,fs⟩ : Request)) (l.take k)).length ≤ 6:=Nat.le_trans (j8 _ _) (by simp;omega)
    have lf : (idxF (fM w (⟨who,act,what,fs⟩ : Request)) (l.take k)).length ≤ 6:=Nat.le_trans (j8 _ _) (by simp;omega)
    have lu : (idxF (hC w (⟨who,act,what,fs⟩ : Request)) (l.take k)).length ≤ 6:=Nat.le_trans (j8 _ _) (by simp;omega)
    obtain ⟨o1,o2,o3⟩:=o
    dsimp only at *
    have oa : ownOK o1 (tkOf o1 ++ (tkOf o2 ++ tkOf o3)):=dE hinv.1.1 (by intro t ht;simp [ht])
    have of : ownOK o2 (tkOf o1 ++ (tkOf o2 ++ tkOf o3)):=dE hinv.1.2.1 (by intro t ht;simp [ht])
    have ou : ownOK o3 (tkOf o1 ++ (tkOf o2 ++ tkOf o3)):=dE hinv.1.2.2 (by intro t ht;simp [ht])
    have hc:=applB_cases w (⟨who,act,what,fs⟩ : Request) x
    (repeat' (first|with_reducible (first|refine bB ?_|refine b6 ?_|refine b8 ?_|refine b9 ?_|refine bC ?_|refine aS ?_|refine b5 ?_|refine aY ?_|refine aQ ?_|refine aZ ?_|refine aT ?_|refine b4 rfl ?_|(refine hK _ ?_;clear K hK)|refine aW rfl ?_|refine aX rfl ?_|intro hfact)|(with_reducible refine And.intro ?_ ?_;focus (first|assumption|omega|(simp;done)|((repeat' apply And.intro)<;>first|assumption|omega)|((repeat' split)<;>omega)))|((first|with_reducible (first|((refine bA TT ?_);intro K hK)|((refine aV TT ?_);intro K hK)|((refine b7 TT [] MX (by kernel_rfl) (by kernel_rfl) ?_);intro K hK)|((refine aU TT [] MX (by kernel_rfl) (by kernel_rfl) ?_);intro K hK))|(with_reducible (first|refine aR TT E (fun hb=>?_) (fun hb=>?_)|refine aP TT E (fun hb=>?_) (fun hb=>?_)|refine aO TT _ _ (fun hb=>?_) (fun hb=>?_)|refine aN TT _ _ (fun hb=>?_) (fun hb=>?_))<;>try simp only [hb])|((first|refine aM TT E (e7 _ _ _ _ _) rfl rfl ?_|refine aL TT _ _ (e7 _ _ _ _ _) rfl rfl ?_);intro m hm;try dsimp only at hm)|((first|refine aM TT E (c8 _) rfl rfl ?_|refine aL TT _ _ (c8 _) rfl rfl ?_);intro m hm;try dsimp only at hm)|((first|refine aM TT E (eG _ _ _ _ _ _ _ _ _ _ _ _ _ _) rfl rfl ?_|refine aL TT _ _ (eG _ _ _ _ _ _ _ _ _ _ _ _ _ _) rfl rfl ?_);intro m hm;try dsimp only at hm))<;>simp only [go_sem,↓reduceIte,aF,aG,a7,a9,aB,aC,aA,aD,a8,reduceCtorEq,aE,aH,aI,aJ,aK,hA.d,hA.w,hA.lt,hA.g,bL,Policy.eta,Expr.eta])|refine bG rfl (fun hb=>?_) (fun hb=>?_)|refine bH rfl (fun hb=>?_) (fun hb=>?_)|refine bF rfl (fun hb=>?_) (fun hb=>?_)))
    all_goals (have hp:=own3_mono hinv hm;obtain ⟨_,p12,p13,p21,p23,p31,p32⟩:=hinv;have t1:=eq_true (tk3_a (n:=m) p21 p31);have t2:=eq_true (tk3_b (n:=m) p12 p32);have t3:=eq_true (tk3_c (n:=m) p13 p23))
    all_goals (rcases hc with hv|hv|hv<;>cases hv2 : x.allow<;>first|(exfalso;omega)|(exfalso;clear ha hf hu la lf lu oa of ou hA t1 t2 t3;simp_all;done)|skip)
    all_goals simp [gZ,fM,hC,hv,hv2] at ha hf hu
    · refine ⟨(o1,o2,.tok m),own3_c hp,(by unfold ASubW;simp only [go_sem,↓reduceIte,a7,a9,aA,a8,reduceCtorEq,hk,LI,ha,hf,hu,t3];try simp)⟩
    · refine ⟨(o1,o2,.tok m),own3_c hp,(by unfold ASubW;simp only [go_sem,↓reduceIte,a7,a9,aA,a8,reduceCtorEq,hk,LI,ha,hf,hu,t3];try simp)⟩
    · refine ⟨(.tok m,o2,o3),own3_a hp,(by unfold ASubW;simp only [go_sem,↓reduceIte,a7,a9,aA,a8,reduceCtorEq,hk,LI,ha,hf,hu,t1];try simp)⟩
    · refine ⟨(o1,.tok m,o3),own3_b hp,(by unfold ASubW;simp only [go_sem,↓reduceIte,a7,a9,aA,a8,reduceCtorEq,hk,LI,ha,hf,hu,t2];try simp)⟩
    · refine ⟨(o1,o2,o3),hp,(by unfold ASubW;simp only [go_sem,↓reduceIte,a7,a9,aA,a8,reduceCtorEq,hk,LI,ha,hf,hu];try simp)⟩
    · refine ⟨(o1,o2,o3),hp,(by unfold ASubW;simp only [go_sem,↓reduceIte,a7,a9,aA,a8,reduceCtorEq,hk,LI,ha,hf,hu];try simp)⟩
theorem i2 (w : List Thing) (who act what : Int) (fs : List Field) (l : List Policy) (Hl : smallP l) (H6 : l.length ≤ 6) : Gives Tryz.prog 71 [LT w,.agg [.int .i64 who,.int .i64 act,.int .i64 what,.sl 3 (fs.map encF) .no],LP l] (.agg [.bool (decG w ⟨who,act,what,fs⟩ l).allow,.sl 1 ((decG w ⟨who,act,what,fs⟩ l).why.map encI) .no,.sl 1 ((decG w ⟨who,act,what,fs⟩ l).faults.map encI) .no]):=by
  refine AC.erR ?_
  refine bD TT Tryz.call71 Tryz.func71 rfl (by simp [Tryz.ntmps71]) (by kernel_rfl) fun E hk=>?_
  (repeat' (first|with_reducible (first|refine bB ?_|refine b6 ?_|refine b8 ?_|refine b9 ?_|refine bC ?_|refine aS ?_|refine b5 ?_|refine aY ?_|refine aQ ?_|refine aZ ?_|refine aT ?_|refine b4 rfl ?_|(refine hK _ ?_;clear K hK)|refine aW rfl ?_|refine aX rfl ?_|intro hfact)|(with_reducible refine And.intro ?_ ?_;focus (first|assumption|omega|(simp;done)|((repeat' apply And.intro)<;>first|assumption|omega)|((repeat' split)<;>omega)))|((first|with_reducible (first|((refine bA TT ?_);intro K hK)|((refine aV TT ?_);intro K hK)|((refine b7 TT [] MX (by kernel_rfl) (by kernel_rfl) ?_);intro K hK)|((refine aU TT [] MX (by kernel_rfl) (by kernel_rfl) ?_);intro K hK))|(with_reducible (first|refine aR TT E (fun hb=>?_) (fun hb=>?_)|refine aP TT E (fun hb=>?_) (fun hb=>?_)|refine aO TT _ _ (fun hb=>?_) (fun hb=>?_)|refine aN TT _ _ (fun hb=>?_) (fun hb=>?_))<;>try simp only [hb])|((first|refine aM TT E (gC _ _ _ _ _ _ _ _ _ _ _ _ _ _ (by first|assumption|omega|(refine (?_ : (0 : Int) ≤ _ → _) ?_<;>first|assumption|omega)|(simp;done)|(simp;omega))) rfl rfl ?_|refine aL TT _ _ (gC _ _ _ _ _ _ _ _ _ _ _ _ _ _ (by first|assumption|omega|(refine (?_ : (0 : Int) ≤ _ → _) ?_<;>first|assumption|omega)|(simp;done)|(simp;omega))) rfl rfl ?_);intro m hm;try dsimp only at hm))<;>simp only [go_sem,↓reduceIte,aF,aG,a7,a9,aB,aC,aA,aD,a8,reduceCtorEq,aE,aH,aI,aJ,aK])))
  refine bQ (l) (List.length (l)) 2 [] [0,2,4,6,7] (fun k o=>[(8,LI (idxF (gZ w (⟨who,act,what,fs⟩ : Request)) (l.take k)) o.1),(9,I k)]) (fun obs k o=>[.cells [.int .i64 who,.int .i64 act,.int .i64 what,.sl 3 (fs.map encF) .no],.cells [.bool false,.sl 1 [] .full,.sl 1 [] .full],.cells [.bool false,.sl 1 ((idxF (fM w (⟨who,act,what,fs⟩ : Request)) (l.take k)).map encI) o.2.1,.sl 1 ((idxF (hC w (⟨who,act,what,fs⟩ : Request)) (l.take k)).map encI) o.2.2]]) (fun k o=>tkOf o.1 ++ (tkOf o.2.1 ++ tkOf o.2.2)) (fun k rest o nt=>own3 o.1 o.2.1 o.2.2 nt) ((.full,.full,.full)) (by first|rfl|(simp;done)|(simp;omega)) (by first|rfl|(simp only [go_sem,↓reduceIte,a7,a9,aA,a8,reduceCtorEq];done)|(simp only [go_sem,↓reduceIte,a7,a9,aA,a8,reduceCtorEq];simp;done)) (by simp only [go_sem,↓reduceIte,a7,a9,aA,a8,reduceCtorEq];rfl) (by first|rfl|(simp only [go_sem,↓reduceIte,a7,a9,aA,a8,reduceCtorEq];rfl)) (own3_0 _) (by unfold ASubW;simp only [go_sem,↓reduceIte,a7,a9,aA,a8,reduceCtorEq,hk];try simp [tkOf,LI,idxF,idxGo,d5]) ?_ ?_
  · rintro o nt hmax hinv
    rw [List.take_length]
    (repeat' (first|with_reducible (first|refine bB ?_|refine b6 ?_|refine b8 ?_|refine b9 ?_|refine bC ?_|refine aS ?_|refine b5 ?_|refine aY ?_|refine aQ ?_|refine aZ ?_|refine aT ?_|refine b4 rfl ?_|(refine hK _ ?_;clear K hK)|refine aW rfl ?_|refine aX rfl ?_|intro hfact)|(with_reducible refine And.intro ?_ ?_;focus (first|assumption|omega|(simp;done)|((repeat' apply And.intro)<;>first|assumption|omega)|((repeat' split)<;>omega)))|((first|with_reducible (first|((refine bA TT ?_);intro K hK)|((refine aV TT ?_);intro K hK)|((refine b7 TT [] MX (by kernel_rfl) (by kernel_rfl) ?_);intro K hK)|((refine aU TT [] MX (by kernel_rfl) (by kernel_rfl) ?_);intro K hK))|(with_reducible (first|refine aR TT E (fun hb=>?_) (fun hb=>?_)|refine aP TT E (fun hb=>?_) (fun hb=>?_)|refine aO TT _ _ (fun hb=>?_) (fun hb=>?_)|refine aN TT _ _ (fun hb=>?_) (fun hb=>?_))<;>try simp only [hb])|((first|refine aM TT E (gC _ _ _ _ _ _ _ _ _ _ _ _ _ _ (by first|assumption|omega|(refine (?_ : (0 : Int) ≤ _ → _) ?_<;>first|assumption|omega)|(simp;done)|(simp;omega))) rfl rfl ?_|refine aL TT _ _ (gC _ _ _ _ _ _ _ _ _ _ _ _ _ _ (by first|assumption|omega|(refine (?_ : (0 : Int) ≤ _ → _) ?_<;>first|assumption|omega)|(simp;done)|(simp;omega))) rfl rfl ?_);intro m hm;try dsimp only at hm))<;>simp only [go_sem,↓reduceIte,aF,aG,a7,a9,aB,aC,aA,aD,a8,reduceCtorEq,aE,aH,aI,aJ,aK])|refine bG rfl (fun hb=>?_) (fun hb=>?_)|refine bH rfl (fun hb=>?_) (fun hb=>?_)|refine bF rfl (fun hb=>?_) (fun hb=>?_)))
    all_goals (refine bP TT (by simp only [go_sem,↓reduceIte,a7,a9,aA,a8,reduceCtorEq,Tryz.results71];rfl) rfl ?_;simp_all [resV,decG,AV.erR,AV.er,erL,erLL,DV.er,fO,List.length_pos_iff])
  · rintro k x rest o nt hA hinv
    have ha:=jB (q:=gZ w (⟨who,act,what,fs⟩ : Request)) hA.le hA.snoc
    have hf:=jB (q:=fM w (⟨who,act,what,fs⟩ : Request)) hA.le hA.snoc
    have hu:=jB (q:=hC w (⟨who,act,what,fs⟩ : Request)) hA.le hA.snoc
    have la : (idxF (gZ w (⟨who,act,what,fs⟩ : Request)) (l.take k)).length ≤ 6:=Nat.le_trans (j8 _ _) (by simp;omega)
    have lf : (idxF (fM w (⟨who,act,what,fs⟩ : Request)) (l.take k)).length ≤ 6:=Nat.le_trans (j8 _ _) (by simp;omega)
    have lu : (idxF (hC w (⟨who,act,what,fs⟩ : Request)) (l.take k)).length ≤ 6:=Nat.le_trans (j8 _ _) (by simp;omega)
    have hx : cntE (.mk x.when.kind x.when.number x.when.name x.when.parts) ≤ 4611686018427387904:=by rw [Expr.eta];have:=Hl x hA.mem;omega
    obtain ⟨o1,o2,o3⟩:=o
    dsimp only at *
    have oa : ownOK o1 (tkOf o1 ++ (tkOf o2 ++ tkOf o3)):=dE hinv.1.1 (by intro t ht;simp [ht])
    have of : ownOK o2 (tkOf o1 ++ (tkOf o2 ++ tkOf o3)):=dE hinv.1.2.1 (by intro t ht;simp [ht])
    have ou : ownOK o3 (tkOf o1 ++ (tkOf o2 ++ tkOf o3)):=dE hinv.1.2.2 (by intro t ht;simp [ht])
    have hc:=applB_cases w (⟨who,act,what,fs⟩ : Request) x
    (repeat' (first|with_reducible (first|refine bB ?_|refine b6 ?_|refine b8 ?_|refine b9 ?_|refine bC ?_|refine aS ?_|refine b5 ?_|refine aY ?_|refine aQ ?_|refine aZ ?_|refine aT ?_|refine b4 rfl ?_|(refine hK _ ?_;clear K hK)|refine aW rfl ?_|refine aX rfl ?_|intro hfact)|(with_reducible refine And.intro ?_ ?_;focus (first|assumption|omega|(simp;done)|((repeat' apply And.intro)<;>first|assumption|omega)|((repeat' split)<;>omega)))|((first|with_reducible (first|((refine bA TT ?_);intro K hK)|((refine aV TT ?_);intro K hK)|((refine b7 TT [] MX (by kernel_rfl) (by kernel_rfl) ?_);intro K hK)|((refine aU TT [] MX (by kernel_rfl) (by kernel_rfl) ?_);intro K hK))|(with_reducible (first|refine aR TT E (fun hb=>?_) (fun hb=>?_)|refine aP TT E (fun hb=>?_) (fun hb=>?_)|refine aO TT _ _ (fun hb=>?_) (fun hb=>?_)|refine aN TT _ _ (fun hb=>?_) (fun hb=>?_))<;>try simp only [hb])|((first|refine aM TT E (gC _ _ _ _ _ _ _ _ _ _ _ _ _ _ (by first|assumption|omega|(refine (?_ : (0 : Int) ≤ _ → _) ?_<;>first|assumption|omega)|(simp;done)|(simp;omega))) rfl rfl ?_|refine aL TT _ _ (gC _ _ _ _ _ _ _ _ _ _ _ _ _ _ (by first|assumption|omega|(refine (?_ : (0 : Int) ≤ _ → _) ?_<;>first|assumption|omega)|(simp;done)|(simp;omega))) rfl rfl ?_);intro m hm;try dsimp only at hm))<;>simp only [go_sem,↓reduceIte,aF,aG,a7,a9,aB,aC,aA,aD,a8,reduceCtorEq,aE,aH,aI,aJ,aK,hA.d,hA.w,hA.lt,hA.g,bL,Policy.eta,Expr.eta])|refine bG rfl (fun hb=>?_) (fun hb=>?_)|refine bH rfl (fun hb=>?_) (fun hb=>?_)|refine bF rfl (fun hb=>?_) (fun hb=>?_)))
    all_goals (have hp:=own3_mono hinv hm;obtain ⟨_,p12,p13,p21,p23,p31,p32⟩:=hinv;have t1:=eq_true (tk3_a (n:=m) p21 p31);have t2:=eq_true (tk3_b (n:=m) p12 p32);have t3:=eq_true (tk3_c (n:=m) p13 p23))
    all_goals (rcases hc with hv|hv|hv<;>cases hv2 : x.allow<;>first|(exfalso;omega)|(exfalso;clear ha hf hu la lf lu oa of ou hA t1 t2 t3;simp_all;done)|skip)
    all_goals simp [gZ,fM,hC,hv,hv2] at ha hf hu
    · refine ⟨(o1,o2,.tok m),own3_c hp,(by unfold ASubW;simp only [go_sem,↓reduceIte,a7,a9,aA,a8,reduceCtorEq,hk,LI,ha,hf,hu,t3];try simp)⟩
    · refine ⟨(o1,o2,.tok m),own3_c hp,(by unfold ASubW;simp only [go_sem,↓reduceIte,a7,a9,aA,a8,reduceCtorEq,hk,LI,ha,hf,hu,t3];try simp)⟩
    · refine ⟨(.tok m,o2,o3),own3_a hp,(by unfold ASubW;simp only [go_sem,↓reduceIte,a7,a9,aA,a8,reduceCtorEq,hk,LI,ha,hf,hu,t1];try simp)⟩
    · refine ⟨(o1,.tok m,o3),own3_b hp,(by unfold ASubW;simp only [go_sem,↓reduceIte,a7,a9,aA,a8,reduceCtorEq,hk,LI,ha,hf,hu,t2];try simp)⟩
    · refine ⟨(o1,o2,o3),hp,(by unfold ASubW;simp only [go_sem,↓reduceIte,a7,a9,aA,a8,reduceCtorEq,hk,LI,ha,hf,hu];try simp)⟩
    · refine ⟨(o1,o2,o3),hp,(by unfold ASubW;simp only [go_sem,↓reduceIte,a7,a9,aA,a8,reduceCtorEq,hk,LI,ha,hf,hu];try simp)⟩
theorem gW (w : List Thing) (who act what : Int) (fs : List Field) (l : List Policy) : Gives Tryz.prog 88 [LT w,.agg [.int .i64 who,.int .i64 act,.int .i64 what,.sl 3 (fs.map encF) .no],LP l] (B (decB w (⟨who,act,what,fs⟩ : Request) l).allow):=by
  refine bD TT Tryz.call88 Tryz.func88 rfl (by simp [Tryz.ntmps88]) (by kernel_rfl) fun E hk=>?_
  (repeat' (first|with_reducible (first|refine bB ?_|refine b6 ?_|refine b8 ?_|refine b9 ?_|refine bC ?_|refine aS ?_|refine b5 ?_|refine aY ?_|refine aQ ?_|refine aZ ?_|refine aT ?_|refine b4 rfl ?_|(refine hK _ ?_;clear K hK)|refine aW rfl ?_|refine aX rfl ?_|intro hfact)|(with_reducible refine And.intro ?_ ?_;focus (first|assumption|omega|(simp;done)|((repeat' apply And.intro)<;>first|assumption|omega)|((repeat' split)<;>omega)))|((first|with_reducible (first|((refine bA TT ?_);intro K hK)|((refine aV TT ?_);intro K hK)|((refine b7 TT [] MX (by kernel_rfl) (by kernel_rfl) ?_);intro K hK)|((refine aU TT [] MX (by kernel_rfl) (by kernel_rfl) ?_);intro K hK))|(with_reducible (first|refine aR TT E (fun hb=>?_) (fun hb=>?_)|refine aP TT E (fun hb=>?_) (fun hb=>?_)|refine aO TT _ _ (fun hb=>?_) (fun hb=>?_)|refine aN TT _ _ (fun hb=>?_) (fun hb=>?_))<;>try simp only [hb])|((first|refine aM TT E (decide_ok _ _ _ _ _ _) rfl rfl ?_|refine aL TT _ _ (decide_ok _ _ _ _ _ _) rfl rfl ?_);intro m hm;try dsimp only at hm))<;>simp only [go_sem,↓reduceIte,aF,aG,a7,a9,aB,aC,aA,aD,a8,reduceCtorEq,aE,aH,aI,aJ,aK])))
  refine bE TT (by simp only [go_sem,↓reduceIte,a7,a9,aA,a8,reduceCtorEq,Tryz.results88];rfl) rfl ?_;rfl
end Go.Proofs.YtmlnpimlfbfkbaaGreat
