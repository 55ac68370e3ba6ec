import Derived.Test.YtdfbaedkcfhdfaaW1
open Int renaming reduceToNat → aF,reduceBEq → aG,reduceBNe → aH,reduceNeg → aI,reduceEq → aJ,reduceLE → aK,reduceLT → aL
open Nat renaming reduceEqDiff → a7,reduceLeDiff → a8,reduceAdd → aA,reduceLT → aB,reduceMul → aC,reduceSub → aD,reduceBEq → aE
namespace Go.Proofs.Ytdfbaedkcfhdfaa
open Go Go.AL
set_option linter.unusedSimpArgs false
set_option linter.unusedVariables false
theorem ascB_mem : ∀ {l : List Int} {lo hi : Int},ascB l lo hi = true → ∀ x ∈ l,lo ≤ x ∧ x ≤ hi
  | [],_,_,_,x,h=>by simp at h
  | n :: r,lo,hi,h,x,hx=>by
    rw [ascB,Bool.and_eq_true] at h
    have h1:=dP.1 h.1
    rcases List.mem_cons.1 hx with rfl|hx
    · exact h1
    · have:=ascB_mem h.2 x hx;omega
theorem worldGo_get {n : Nat} : ∀ {l : List Thing} {k : Nat},d4 n k l = true → ∀ (i : Nat) (t : Thing),l[i]? = some t → ascB t.groups 0 (((k + i : Nat) : Int) - 1) = true ∧ cZ t.fields n = true
  | [],_,_,i,t,h=>by simp at h
  | x :: l,k,h,i,t,ht=>by
    rw [d4,Bool.and_eq_true,Bool.and_eq_true] at h
    cases i with
    | zero=>simp at ht;subst ht;exact ⟨by simpa using h.1.1,h.1.2⟩
    | succ i =>
      have:=worldGo_get h.2 i t (by simpa using ht)
      rw [show k + 1 + i = k + (i + 1) by omega] at this
      exact this
theorem cW {w : List Thing} (h : worldB w = true) {i : Nat} {t : Thing} (ht : w[i]? = some t) : ascB t.groups 0 ((i : Int) - 1) = true ∧ cZ t.fields w.length = true:=by
  simp only [worldB,Bool.and_eq_true] at h
  have:=worldGo_get h.1 i t ht
  simpa using this
theorem dR {w : List Thing} (h : worldB w = true) : w.length ≤ 7:=by
  simp only [worldB,Bool.and_eq_true,decide_eq_true_eq] at h
  omega
def okW (w : List Thing) : Prop:=∀ (k : Nat) (t : Thing),w[k]? = some t → ∀ g ∈ t.groups,0 ≤ g ∧ g < k
theorem okW_of {w : List Thing} (h : worldB w = true) : okW w:=fun k t ht g hg=>by
  have:=ascB_mem (cW h ht).1 g hg
  omega
def inW (w : List Thing) (g : Int) : Nat → Int → Bool
  | 0,t=>t == g
  | d + 1,t=>t == g || (w.getD t.toNat ⟨[],[]⟩).groups.any (inW w g d)
theorem isIn1_ok (w : List Thing) (g x : Int) (b : Bool) (h : Gives Try.prog 62 [LT w,I x,I g] (B b)) : AC Try.prog 113 [I x,.ptr 0 0,.ptr 1 0] [.cells [.sl 2 (w.map encT) .no],.cells [.int .i64 g]] fun _ v o t _=>v = B b ∧ o = [.cells [.sl 2 (w.map encT) .no],.cells [.int .i64 g]] ∧ t = []:=by
  refine bE TT Try.call113 Try.func113 rfl (by simp [Try.ntmps113]) (by kernel_rfl) fun E hk=>?_
  (repeat' (first|with_reducible (first|refine bC ?_|refine b6 ?_|refine b9 ?_|refine bA ?_|refine bD ?_|refine aT ?_|refine b8 ?_|refine aY ?_|refine aS ?_|refine b5 ?_|refine aU ?_|refine b4 rfl ?_|(refine hK _ ?_;clear K hK)|refine aZ rfl ?_|refine aX rfl ?_|intro hfact)|(with_reducible refine And.intro ?_ ?_;focus (first|assumption|omega|(simp;done)|((repeat' apply And.intro)<;>first|assumption|omega)|((repeat' split)<;>omega)))|((first|with_reducible (first|((refine bB TT ?_);intro K hK)|((refine aW TT ?_);intro K hK)|((refine b7 TT [] MX (by kernel_rfl) (by kernel_rfl) ?_);intro K hK)|((refine aV TT [] MX (by kernel_rfl) (by kernel_rfl) ?_);intro K hK))|(with_reducible (first|refine aR TT E (fun hb=>?_) (fun hb=>?_)|refine aQ TT E (fun hb=>?_) (fun hb=>?_)|refine aO TT _ _ (fun hb=>?_) (fun hb=>?_)|refine aP TT _ _ (fun hb=>?_) (fun hb=>?_))<;>try simp only [hb])|((first|refine aN TT E (h) rfl rfl ?_|refine aM TT _ _ (h) rfl rfl ?_);intro m hm;try dsimp only at hm))<;>simp only [go_sem,↓reduceIte,aG,aH,a7,aA,aC,aD,aB,aE,a8,reduceCtorEq,aF,aI,aJ,aK,aL])))
  refine d7 TT (by simp only [go_sem,↓reduceIte,a7,aA,aB,a8,reduceCtorEq,Try.results113];rfl) rfl ?_;exact ⟨rfl,rfl,rfl⟩
theorem indexFI_ok (c0 c1 : AO) (F : FuncId) (p : Int → Bool) (l : List Int) (h : ∀ x ∈ l,AC Try.prog F [I x,.ptr 0 0,.ptr 1 0] [c0,c1] fun _ v o t _=>v = B (p x) ∧ o = [c0,c1] ∧ t = []) : AC Try.prog 110 [LI l,.fn F [0,1]] [c0,c1] fun _ v o t _=>(∃ n : Int,v = I n ∧ decide (0 ≤ n) = l.any p) ∧ o = [c0,c1] ∧ t = []:=by
  refine bE TT Try.call110 Try.func110 rfl (by simp [Try.ntmps110]) (by kernel_rfl) fun E hk=>?_
  (repeat' (first|with_reducible (first|refine bC ?_|refine b6 ?_|refine b9 ?_|refine bA ?_|refine bD ?_|refine aT ?_|refine b8 ?_|refine aY ?_|refine aS ?_|refine b5 ?_|refine aU ?_|refine b4 rfl ?_|(refine hK _ ?_;clear K hK)|refine aZ rfl ?_|refine aX rfl ?_|intro hfact)|(with_reducible refine And.intro ?_ ?_;focus (first|assumption|omega|(simp;done)|((repeat' apply And.intro)<;>first|assumption|omega)|((repeat' split)<;>omega)))|((first|with_reducible (first|((refine bB TT ?_);intro K hK)|((refine aW TT ?_);intro K hK)|((refine b7 TT [] MX (by kernel_rfl) (by kernel_rfl) ?_);intro K hK)|((refine aV TT [] MX (by kernel_rfl) (by kernel_rfl) ?_);intro K hK))|(with_reducible (first|refine aR TT E (fun hb=>?_) (fun hb=>?_)|refine aQ TT E (fun hb=>?_) (fun hb=>?_)|refine aO TT _ _ (fun hb=>?_) (fun hb=>?_)|refine aP TT _ _ (fun hb=>?_) (fun hb=>?_))<;>try simp only [hb]))<;>simp only [go_sem,↓reduceIte,aG,aH,a7,aA,aC,aD,aB,aE,a8,reduceCtorEq,aF,aI,aJ,aK,aL])))
  refine cE (l) (List.length (l)) 0 [] [0,1,7] (fun k st=>[(8,I k)]) (fun obs k st=>obs) (fun k st=>[]) (fun k rest st nt=>rest.any p = l.any p) (()) (by first|rfl|(simp;done)|(simp;omega)) (by first|rfl|(simp only [go_sem,↓reduceIte,a7,aA,aB,a8,reduceCtorEq];done)|(simp only [go_sem,↓reduceIte,a7,aA,aB,a8,reduceCtorEq];simp;done)) (by simp only [go_sem,↓reduceIte,a7,aA,aB,a8,reduceCtorEq];rfl) (by first|rfl|(simp only [go_sem,↓reduceIte,a7,aA,aB,a8,reduceCtorEq];rfl)) (rfl) (by unfold ASubW;simp only [go_sem,↓reduceIte,a7,aA,aB,a8,reduceCtorEq,hk];try simp) ?_ ?_
  · rintro st nt hmax hinv
    (repeat' (first|with_reducible (first|refine bC ?_|refine b6 ?_|refine b9 ?_|refine bA ?_|refine bD ?_|refine aT ?_|refine b8 ?_|refine aY ?_|refine aS ?_|refine b5 ?_|refine aU ?_|refine b4 rfl ?_|(refine hK _ ?_;clear K hK)|refine aZ rfl ?_|refine aX rfl ?_|intro hfact)|(with_reducible refine And.intro ?_ ?_;focus (first|assumption|omega|(simp;done)|((repeat' apply And.intro)<;>first|assumption|omega)|((repeat' split)<;>omega)))|((first|with_reducible (first|((refine bB TT ?_);intro K hK)|((refine aW TT ?_);intro K hK)|((refine b7 TT [] MX (by kernel_rfl) (by kernel_rfl) ?_);intro K hK)|((refine aV TT [] MX (by kernel_rfl) (by kernel_rfl) ?_);intro K hK))|(with_reducible (first|refine aR TT E (fun hb=>?_) (fun hb=>?_)|refine aQ TT E (fun hb=>?_) (fun hb=>?_)|refine aO TT _ _ (fun hb=>?_) (fun hb=>?_)|refine aP TT _ _ (fun hb=>?_) (fun hb=>?_))<;>try simp only [hb]))<;>simp only [go_sem,↓reduceIte,aG,aH,a7,aA,aC,aD,aB,aE,a8,reduceCtorEq,aF,aI,aJ,aK,aL])))
    refine d7 TT (by simp only [go_sem,↓reduceIte,a7,aA,aB,a8,reduceCtorEq,Try.results110];rfl) rfl ?_;exact ⟨⟨-1,rfl,by simp [← hinv]⟩,rfl,rfl⟩
  · rintro k x rest st nt hA hinv
    rw [List.any_cons] at hinv
    (repeat' (first|with_reducible (first|refine bC ?_|refine b6 ?_|refine b9 ?_|refine bA ?_|refine bD ?_|refine aT ?_|refine b8 ?_|refine aY ?_|refine aS ?_|refine b5 ?_|refine aU ?_|refine b4 rfl ?_|(refine hK _ ?_;clear K hK)|refine aZ rfl ?_|refine aX rfl ?_|intro hfact)|(with_reducible refine And.intro ?_ ?_;focus (first|assumption|omega|(simp;done)|((repeat' apply And.intro)<;>first|assumption|omega)|((repeat' split)<;>omega)))|((first|with_reducible (first|((refine bB TT ?_);intro K hK)|((refine aW TT ?_);intro K hK)|((refine b7 TT [] MX (by kernel_rfl) (by kernel_rfl) ?_);intro K hK)|((refine aV TT [] MX (by kernel_rfl) (by kernel_rfl) ?_);intro K hK))|(with_reducible (first|refine aR TT E (fun hb=>?_) (fun hb=>?_)|refine aQ TT E (fun hb=>?_) (fun hb=>?_)|refine aO TT _ _ (fun hb=>?_) (fun hb=>?_)|refine aP TT _ _ (fun hb=>?_) (fun hb=>?_))<;>try simp only [hb])|(refine dF TT E [0,1] (h x hA.mem) rfl rfl rfl (by decide) ?_;rintro r os ts m ⟨rfl,rfl,rfl⟩))<;>simp only [go_sem,↓reduceIte,aG,aH,a7,aA,aC,aD,aB,aE,a8,reduceCtorEq,aF,aI,aJ,aK,aL,hA.d,hA.w,hA.lt,hA.g,encI])|refine c6 rfl (fun hb=>?_) (fun hb=>?_)|refine bW rfl (fun hb=>?_) (fun hb=>?_)|refine bM rfl (fun hb=>?_) (fun hb=>?_)))
    · refine d7 TT (by simp only [go_sem,↓reduceIte,a7,aA,aB,a8,reduceCtorEq,Try.results110];rfl) rfl ?_;exact ⟨⟨k,rfl,by simp [← hinv,hb]⟩,rfl,rfl⟩
    · refine ⟨(),?_,(by unfold ASubW;simp only [go_sem,↓reduceIte,a7,aA,aB,a8,reduceCtorEq,hk];try simp)⟩;simpa [hb] using hinv
theorem containsFI_ok (c0 c1 : AO) (F : FuncId) (p : Int → Bool) (l : List Int) (h : ∀ x ∈ l,AC Try.prog F [I x,.ptr 0 0,.ptr 1 0] [c0,c1] fun _ v o t _=>v = B (p x) ∧ o = [c0,c1] ∧ t = []) : AC Try.prog 112 [LI l,.fn F [0,1]] [c0,c1] fun _ v o t _=>v = B (l.any p) ∧ o = [c0,c1] ∧ t = []:=by
  refine bE TT Try.call112 Try.func112 rfl (by simp [Try.ntmps112]) (by kernel_rfl) fun E hk=>?_
  (repeat' (first|with_reducible (first|refine bC ?_|refine b6 ?_|refine b9 ?_|refine bA ?_|refine bD ?_|refine aT ?_|refine b8 ?_|refine aY ?_|refine aS ?_|refine b5 ?_|refine aU ?_|refine b4 rfl ?_|(refine hK _ ?_;clear K hK)|refine aZ rfl ?_|refine aX rfl ?_|intro hfact)|(with_reducible refine And.intro ?_ ?_;focus (first|assumption|omega|(simp;done)|((repeat' apply And.intro)<;>first|assumption|omega)|((repeat' split)<;>omega)))|((first|with_reducible (first|((refine bB TT ?_);intro K hK)|((refine aW TT ?_);intro K hK)|((refine b7 TT [] MX (by kernel_rfl) (by kernel_rfl) ?_);intro K hK)|((refine aV TT [] MX (by kernel_rfl) (by kernel_rfl) ?_);intro K hK))|(with_reducible (first|refine aR TT E (fun hb=>?_) (fun hb=>?_)|refine aQ TT E (fun hb=>?_) (fun hb=>?_)|refine aO TT _ _ (fun hb=>?_) (fun hb=>?_)|refine aP TT _ _ (fun hb=>?_) (fun hb=>?_))<;>try simp only [hb])|(refine dF TT E [0,1] (indexFI_ok c0 c1 F p l h) rfl rfl rfl (by decide) ?_;rintro r os ts m ⟨⟨n,rfl,hn⟩,rfl,rfl⟩))<;>simp only [go_sem,↓reduceIte,aG,aH,a7,aA,aC,aD,aB,aE,a8,reduceCtorEq,aF,aI,aJ,aK,aL])))
  refine d7 TT (by simp only [go_sem,↓reduceIte,a7,aA,aB,a8,reduceCtorEq,Try.results112];rfl) rfl ?_;exact ⟨by simp only [resV,hn],rfl,rfl⟩
theorem isInS_ok (w : List Thing) (g : Int) (t : Nat) (x : Thing) (hx : w[t]? = some x) (p : Int → Bool) (h : ∀ y ∈ x.groups,Gives Try.prog 62 [LT w,I y,I g] (B (p y))) : Gives Try.prog 62 [LT w,I t,I g] (B ((t : Int) == g || x.groups.any p)):=by
  refine bE TT Try.call62 Try.func62 rfl (by simp [Try.ntmps62]) (by kernel_rfl) fun E hk=>?_
  have hg : pickL (w.map encT) t = encT x:=cG (by simp [hx])
  have hlt : t < w.length:=(List.getElem?_eq_some_iff.1 hx).1
  (repeat' (first|with_reducible (first|refine bC ?_|refine b6 ?_|refine b9 ?_|refine bA ?_|refine bD ?_|refine aT ?_|refine b8 ?_|refine aY ?_|refine aS ?_|refine b5 ?_|refine aU ?_|refine b4 rfl ?_|(refine hK _ ?_;clear K hK)|refine aZ rfl ?_|refine aX rfl ?_|intro hfact)|(with_reducible refine And.intro ?_ ?_;focus (first|assumption|omega|(simp;done)|((repeat' apply And.intro)<;>first|assumption|omega)|((repeat' split)<;>omega)))|((first|with_reducible (first|((refine bB TT ?_);intro K hK)|((refine aW TT ?_);intro K hK)|((refine b7 TT [] MX (by kernel_rfl) (by kernel_rfl) ?_);intro K hK)|((refine aV TT [] MX (by kernel_rfl) (by kernel_rfl) ?_);intro K hK))|(with_reducible (first|refine aR TT E (fun hb=>?_) (fun hb=>?_)|refine aQ TT E (fun hb=>?_) (fun hb=>?_)|refine aO TT _ _ (fun hb=>?_) (fun hb=>?_)|refine aP TT _ _ (fun hb=>?_) (fun hb=>?_))<;>try simp only [hb])|(refine dF TT E [0,1] (containsFI_ok (.cells [.sl 2 (w.map encT) .no]) (.cells [.int .i64 g]) 113 p x.groups (fun y hy=>isIn1_ok w g y (p y) (h y hy))) rfl rfl rfl (by decide) ?_;rintro r os ts m ⟨rfl,rfl,rfl⟩))<;>simp only [go_sem,↓reduceIte,aG,aH,a7,aA,aC,aD,aB,aE,a8,reduceCtorEq,aF,aI,aJ,aK,aL,hg,hlt,encT])|refine c6 rfl (fun hb=>?_) (fun hb=>?_)|refine bW rfl (fun hb=>?_) (fun hb=>?_)|refine bM rfl (fun hb=>?_) (fun hb=>?_)))
  all_goals (refine bF TT (by simp only [go_sem,↓reduceIte,a7,aA,aB,a8,reduceCtorEq,Try.results62];rfl) rfl ?_;simp_all [resV])
theorem isIn_ok (w : List Thing) (hw : okW w) (g : Int) : ∀ (d t : Nat),t ≤ d → t < w.length → Gives Try.prog 62 [LT w,I t,I g] (B (inW w g d t))
  | 0,t,h1,h2=>by
    obtain rfl : t = 0:=by omega
    obtain ⟨x,hx⟩ : ∃ x,w[0]? = some x:=⟨w[0],List.getElem?_eq_getElem h2⟩
    have hn : x.groups = []:=List.eq_nil_iff_forall_not_mem.2 fun y hy=>by have:=hw 0 x hx y hy;omega
    have:=isInS_ok w g 0 x hx (fun _=>false) (by rw [hn];simp)
    rw [hn] at this
    simpa [inW] using this
  | d + 1,t,h1,h2=>by
    obtain ⟨x,hx⟩ : ∃ x,w[t]? = some x:=⟨w[t],List.getElem?_eq_getElem h2⟩
    have:=isInS_ok w g t x hx (inW w g d) (fun y hy=>by
      have h3:=hw t x hx y hy
      have:=isIn_ok w hw g d y.toNat (by omega) (by omega)
      rwa [show ((y.toNat : Nat) : Int) = y by omega] at this)
    rw [inW]
    simpa [hx] using this
def isInB (w : List Thing) (t g : Int) : Bool:=worldB w && inB t 0 ((w.length : Int) - 1) && inB g 0 ((w.length : Int) - 1) && inW w g w.length t
theorem bR (w : List Thing) (t g : Int) : Gives Try.prog 16 [LT w,I t,I g] (B (isInB w t g)):=by
  refine bE TT Try.call16 Try.func16 rfl (by simp [Try.ntmps16]) (by kernel_rfl) fun E hk=>?_
  cases h1 : worldB w
  · (repeat' (first|with_reducible (first|refine bC ?_|refine b6 ?_|refine b9 ?_|refine bA ?_|refine bD ?_|refine aT ?_|refine b8 ?_|refine aY ?_|refine aS ?_|refine b5 ?_|refine aU ?_|refine b4 rfl ?_|(refine hK _ ?_;clear K hK)|refine aZ rfl ?_|refine aX rfl ?_|intro hfact)|(with_reducible refine And.intro ?_ ?_;focus (first|assumption|omega|(simp;done)|((repeat' apply And.intro)<;>first|assumption|omega)|((repeat' split)<;>omega)))|((first|with_reducible (first|((refine bB TT ?_);intro K hK)|((refine aW TT ?_);intro K hK)|((refine b7 TT [] MX (by kernel_rfl) (by kernel_rfl) ?_);intro K hK)|((refine aV TT [] MX (by kernel_rfl) (by kernel_rfl) ?_);intro K hK))|(with_reducible (first|refine aR TT E (fun hb=>?_) (fun hb=>?_)|refine aQ TT E (fun hb=>?_) (fun hb=>?_)|refine aO TT _ _ (fun hb=>?_) (fun hb=>?_)|refine aP TT _ _ (fun hb=>?_) (fun hb=>?_))<;>try simp only [hb])|((first|refine aN TT E (bP _) rfl rfl ?_|refine aM TT _ _ (bP _) rfl rfl ?_);intro m hm;try dsimp only at hm)|((first|refine aN TT E (bH _ _) rfl rfl ?_|refine aM TT _ _ (bH _ _) rfl rfl ?_);intro m hm;try dsimp only at hm))<;>simp only [go_sem,↓reduceIte,aG,aH,a7,aA,aC,aD,aB,aE,a8,reduceCtorEq,aF,aI,aJ,aK,aL,h1])))
    refine bF TT (by simp only [go_sem,↓reduceIte,a7,aA,aB,a8,reduceCtorEq,Try.results16];rfl) rfl ?_;simp [resV,isInB,h1]
  cases h2 : inB t 0 ((w.length : Int) - 1)
  · (repeat' (first|with_reducible (first|refine bC ?_|refine b6 ?_|refine b9 ?_|refine bA ?_|refine bD ?_|refine aT ?_|refine b8 ?_|refine aY ?_|refine aS ?_|refine b5 ?_|refine aU ?_|refine b4 rfl ?_|(refine hK _ ?_;clear K hK)|refine aZ rfl ?_|refine aX rfl ?_|intro hfact)|(with_reducible refine And.intro ?_ ?_;focus (first|assumption|omega|(simp;done)|((repeat' apply And.intro)<;>first|assumption|omega)|((repeat' split)<;>omega)))|((first|with_reducible (first|((refine bB TT ?_);intro K hK)|((refine aW TT ?_);intro K hK)|((refine b7 TT [] MX (by kernel_rfl) (by kernel_rfl) ?_);intro K hK)|((refine aV TT [] MX (by kernel_rfl) (by kernel_rfl) ?_);intro K hK))|(with_reducible (first|refine aR TT E (fun hb=>?_) (fun hb=>?_)|refine aQ TT E (fun hb=>?_) (fun hb=>?_)|refine aO TT _ _ (fun hb=>?_) (fun hb=>?_)|refine aP TT _ _ (fun hb=>?_) (fun hb=>?_))<;>try simp only [hb])|((first|refine aN TT E (bP _) rfl rfl ?_|refine aM TT _ _ (bP _) rfl rfl ?_);intro m hm;try dsimp only at hm)|((first|refine aN TT E (bH _ _) rfl rfl ?_|refine aM TT _ _ (bH _ _) rfl rfl ?_);intro m hm;try dsimp only at hm))<;>simp only [go_sem,↓reduceIte,aG,aH,a7,aA,aC,aD,aB,aE,a8,reduceCtorEq,aF,aI,aJ,aK,aL,h1,h2])))
    refine bF TT (by simp only [go_sem,↓reduceIte,a7,aA,aB,a8,reduceCtorEq,Try.results16];rfl) rfl ?_;simp [resV,isInB,h1,h2]
  have h3:=dP.1 h2
  have h4:=isIn_ok w (okW_of h1) g w.length t.toNat (by omega) (by omega)
  rw [show ((t.toNat : Nat) : Int) = t by omega] at h4
  cases h5 : inB g 0 ((w.length : Int) - 1)
  · (repeat' (first|with_reducible (first|refine bC ?_|refine b6 ?_|refine b9 ?_|refine bA ?_|refine bD ?_|refine aT ?_|refine b8 ?_|refine aY ?_|refine aS ?_|refine b5 ?_|refine aU ?_|refine b4 rfl ?_|(refine hK _ ?_;clear K hK)|refine aZ rfl ?_|refine aX rfl ?_|intro hfact)|(with_reducible refine And.intro ?_ ?_;focus (first|assumption|omega|(simp;done)|((repeat' apply And.intro)<;>first|assumption|omega)|((repeat' split)<;>omega)))|((first|with_reducible (first|((refine bB TT ?_);intro K hK)|((refine aW TT ?_);intro K hK)|((refine b7 TT [] MX (by kernel_rfl) (by kernel_rfl) ?_);intro K hK)|((refine aV TT [] MX (by kernel_rfl) (by kernel_rfl) ?_);intro K hK))|(with_reducible (first|refine aR TT E (fun hb=>?_) (fun hb=>?_)|refine aQ TT E (fun hb=>?_) (fun hb=>?_)|refine aO TT _ _ (fun hb=>?_) (fun hb=>?_)|refine aP TT _ _ (fun hb=>?_) (fun hb=>?_))<;>try simp only [hb])|((first|refine aN TT E (bP _) rfl rfl ?_|refine aM TT _ _ (bP _) rfl rfl ?_);intro m hm;try dsimp only at hm)|((first|refine aN TT E (bH _ _) rfl rfl ?_|refine aM TT _ _ (bH _ _) rfl rfl ?_);intro m hm;try dsimp only at hm))<;>simp only [go_sem,↓reduceIte,aG,aH,a7,aA,aC,aD,aB,aE,a8,reduceCtorEq,aF,aI,aJ,aK,aL,h1,h2,h5])))
    refine bF TT (by simp only [go_sem,↓reduceIte,a7,aA,aB,a8,reduceCtorEq,Try.results16];rfl) rfl ?_;simp [resV,isInB,h1,h2,h5]
  · (repeat' (first|with_reducible (first|refine bC ?_|refine b6 ?_|refine b9 ?_|refine bA ?_|refine bD ?_|refine aT ?_|refine b8 ?_|refine aY ?_|refine aS ?_|refine b5 ?_|refine aU ?_|refine b4 rfl ?_|(refine hK _ ?_;clear K hK)|refine aZ rfl ?_|refine aX rfl ?_|intro hfact)|(with_reducible refine And.intro ?_ ?_;focus (first|assumption|omega|(simp;done)|((repeat' apply And.intro)<;>first|assumption|omega)|((repeat' split)<;>omega)))|((first|with_reducible (first|((refine bB TT ?_);intro K hK)|((refine aW TT ?_);intro K hK)|((refine b7 TT [] MX (by kernel_rfl) (by kernel_rfl) ?_);intro K hK)|((refine aV TT [] MX (by kernel_rfl) (by kernel_rfl) ?_);intro K hK))|(with_reducible (first|refine aR TT E (fun hb=>?_) (fun hb=>?_)|refine aQ TT E (fun hb=>?_) (fun hb=>?_)|refine aO TT _ _ (fun hb=>?_) (fun hb=>?_)|refine aP TT _ _ (fun hb=>?_) (fun hb=>?_))<;>try simp only [hb])|((first|refine aN TT E (h4) rfl rfl ?_|refine aM TT _ _ (h4) rfl rfl ?_);intro m hm;try dsimp only at hm)|((first|refine aN TT E (bP _) rfl rfl ?_|refine aM TT _ _ (bP _) rfl rfl ?_);intro m hm;try dsimp only at hm)|((first|refine aN TT E (bH _ _) rfl rfl ?_|refine aM TT _ _ (bH _ _) rfl rfl ?_);intro m hm;try dsimp only at hm))<;>simp only [go_sem,↓reduceIte,aG,aH,a7,aA,aC,aD,aB,aE,a8,reduceCtorEq,aF,aI,aJ,aK,aL,h1,h2,h5])))
    refine bF TT (by simp only [go_sem,↓reduceIte,a7,aA,aB,a8,reduceCtorEq,Try.results16];rfl) rfl ?_;simp [resV,isInB,h1,h2,h5]
def reqB (w : List Thing) (r : Request) : Bool:=worldB w && inB r.who 0 ((w.length : Int) - 1) && inB r.what 0 ((w.length : Int) - 1) && inB r.act 0 3 && cZ r.fields w.length
def fieldO (l : List Field) (nm : List UInt8) : Option (Int × Int) :=
  match l with
  | []=>none
  | f :: r=>if f.name = nm then some (f.kind,f.number) else fieldO r nm
def fo1 (x : Option (Int × Int)) : Int:=(x.getD (0,0)).1
def fo2 (x : Option (Int × Int)) : Int:=(x.getD (0,0)).2
end Go.Proofs.Ytdfbaedkcfhdfaa
