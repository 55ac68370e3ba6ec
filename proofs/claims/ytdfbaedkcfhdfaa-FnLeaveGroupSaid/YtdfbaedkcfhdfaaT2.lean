import Derived.Test.YtdfbaedkcfhdfaaT1
open Int renaming reduceToNat → aF,reduceBEq → aG,reduceBNe → aH,reduceNeg → aI,reduceEq → aJ,reduceLE → aK,reduceLT → aL
open Nat renaming reduceEqDiff → a7,reduceLeDiff → a8,reduceAdd → aA,reduceLT → aB,reduceMul → aC,reduceSub → aD,reduceBEq → aE
namespace Go.Proofs.Ytdfbaedkcfhdfaa
open Go Go.AL
set_option linter.unusedSimpArgs false
set_option linter.unusedVariables false
theorem pick_ok (l : List Int) (p : Nat) (n : Int) (hl : okB l) (hp : p ≤ 1099511627776) : AC Try.prog 83 [.ptr 0 0,I n] [rd l p] fun _ v o t _=>∃ x,v = I x ∧ 0 ≤ x ∧ (1 ≤ n → x < n) ∧ o = [rd l (p + 1)] ∧ t = []:=by
  refine bE TT Try.call83 Try.func83 rfl (by simp [Try.ntmps83]) (by kernel_rfl) fun E hk=>?_
  have hw1 : IntKind.i64.wrap ((p : Int) + 1) = ((p + 1 : Nat) : Int):=by rw [bT (by omega)];rfl
  have hw2 : IntKind.i64.wrap (((p + 1 : Nat) : Int) - 1) = (p : Int):=by rw [bT (by omega)];omega
  (repeat' (first|with_reducible (first|refine bC ?_|refine b6 ?_|refine b9 ?_|refine bA ?_|refine bD ?_|refine aT ?_|refine b8 ?_|refine aY ?_|refine aS ?_|refine b5 ?_|refine aU ?_|refine b4 rfl ?_|(refine hK _ ?_;clear K hK)|refine aZ rfl ?_|refine aX rfl ?_|intro hfact)|(with_reducible refine And.intro ?_ ?_;focus (first|assumption|omega|(simp;done)|((repeat' apply And.intro)<;>first|assumption|omega)|((repeat' split)<;>omega)))|((first|with_reducible (first|((refine bB TT ?_);intro K hK)|((refine aW TT ?_);intro K hK)|((refine b7 TT [] MX (by kernel_rfl) (by kernel_rfl) ?_);intro K hK)|((refine aV TT [] MX (by kernel_rfl) (by kernel_rfl) ?_);intro K hK))|(with_reducible (first|refine aR TT E (fun hb=>?_) (fun hb=>?_)|refine aQ TT E (fun hb=>?_) (fun hb=>?_)|refine aO TT _ _ (fun hb=>?_) (fun hb=>?_)|refine aP TT _ _ (fun hb=>?_) (fun hb=>?_))<;>try simp only [hb]))<;>simp only [go_sem,↓reduceIte,aG,aH,a7,aA,aC,aD,aB,aE,a8,reduceCtorEq,aF,aI,aJ,aK,aL,rd,hw1])))
  case refine_2 =>
    refine d7 TT (by simp only [go_sem,↓reduceIte,a7,aA,aB,a8,reduceCtorEq,Try.results83];rfl) rfl ?_;refine ⟨0,rfl,Int.le_refl _,?_,rfl,rfl⟩
    intro h1;have:=of_decide_eq_true hb;omega
  refine bM rfl (fun hb2=>?_) (fun hb2=>?_)
  · (repeat' (first|with_reducible (first|refine bC ?_|refine b6 ?_|refine b9 ?_|refine bA ?_|refine bD ?_|refine aT ?_|refine b8 ?_|refine aY ?_|refine aS ?_|refine b5 ?_|refine aU ?_|refine b4 rfl ?_|(refine hK _ ?_;clear K hK)|refine aZ rfl ?_|refine aX rfl ?_|intro hfact)|(with_reducible refine And.intro ?_ ?_;focus (first|assumption|omega|(simp;done)|((repeat' apply And.intro)<;>first|assumption|omega)|((repeat' split)<;>omega)))|((first|with_reducible (first|((refine bB TT ?_);intro K hK)|((refine aW TT ?_);intro K hK)|((refine b7 TT [] MX (by kernel_rfl) (by kernel_rfl) ?_);intro K hK)|((refine aV TT [] MX (by kernel_rfl) (by kernel_rfl) ?_);intro K hK))|(with_reducible (first|refine aR TT E (fun hb=>?_) (fun hb=>?_)|refine aQ TT E (fun hb=>?_) (fun hb=>?_)|refine aO TT _ _ (fun hb=>?_) (fun hb=>?_)|refine aP TT _ _ (fun hb=>?_) (fun hb=>?_))<;>try simp only [hb]))<;>simp only [go_sem,↓reduceIte,aG,aH,a7,aA,aC,aD,aB,aE,a8,reduceCtorEq,aF,aI,aJ,aK,aL])))
    refine d7 TT (by simp only [go_sem,↓reduceIte,a7,aA,aB,a8,reduceCtorEq,Try.results83];rfl) rfl ?_;refine ⟨0,rfl,Int.le_refl _,?_,rfl,rfl⟩
    intro h1;have:=of_decide_eq_false hb;omega
  have hn : (n = 0) = False:=by simp at hb ⊢;omega
  have hl0 : 0 < l.length:=by
    simp [eE] at hb2
    exact List.length_pos_iff.2 hb2
  (repeat' (first|with_reducible (first|refine bC ?_|refine b6 ?_|refine b9 ?_|refine bA ?_|refine bD ?_|refine aT ?_|refine b8 ?_|refine aY ?_|refine aS ?_|refine b5 ?_|refine aU ?_|refine b4 rfl ?_|(refine hK _ ?_;clear K hK)|refine aZ rfl ?_|refine aX rfl ?_|intro hfact)|(with_reducible refine And.intro ?_ ?_;focus (first|assumption|omega|(simp;done)|((repeat' apply And.intro)<;>first|assumption|omega)|((repeat' split)<;>omega)))|((first|with_reducible (first|((refine bB TT ?_);intro K hK)|((refine aW TT ?_);intro K hK)|((refine b7 TT [] MX (by kernel_rfl) (by kernel_rfl) ?_);intro K hK)|((refine aV TT [] MX (by kernel_rfl) (by kernel_rfl) ?_);intro K hK))|(with_reducible (first|refine aR TT E (fun hb=>?_) (fun hb=>?_)|refine aQ TT E (fun hb=>?_) (fun hb=>?_)|refine aO TT _ _ (fun hb=>?_) (fun hb=>?_)|refine aP TT _ _ (fun hb=>?_) (fun hb=>?_))<;>try simp only [hb]))<;>simp only [go_sem,↓reduceIte,aG,aH,a7,aA,aC,aD,aB,aE,a8,reduceCtorEq,aF,aI,aJ,aK,aL,hw2,eE])))
  refine bM rfl (fun hb3=>?_) (fun hb3=>?_)
  · have hlt : p < l.length:=by simpa using hb3
    have hb0:=hl.2 _ (List.getElem_mem hlt)
    have hwb : IntKind.i64.wrap l[p] = l[p]:=bT (by omega)
    (repeat' (first|with_reducible (first|refine bC ?_|refine b6 ?_|refine b9 ?_|refine bA ?_|refine bD ?_|refine aT ?_|refine b8 ?_|refine aY ?_|refine aS ?_|refine b5 ?_|refine aU ?_|refine b4 rfl ?_|(refine hK _ ?_;clear K hK)|refine aZ rfl ?_|refine aX rfl ?_|intro hfact)|(with_reducible refine And.intro ?_ ?_;focus (first|assumption|omega|(simp;done)|((repeat' apply And.intro)<;>first|assumption|omega)|((repeat' split)<;>omega)))|((first|with_reducible (first|((refine bB TT ?_);intro K hK)|((refine aW TT ?_);intro K hK)|((refine b7 TT [] MX (by kernel_rfl) (by kernel_rfl) ?_);intro K hK)|((refine aV TT [] MX (by kernel_rfl) (by kernel_rfl) ?_);intro K hK))|(with_reducible (first|refine aR TT E (fun hb=>?_) (fun hb=>?_)|refine aQ TT E (fun hb=>?_) (fun hb=>?_)|refine aO TT _ _ (fun hb=>?_) (fun hb=>?_)|refine aP TT _ _ (fun hb=>?_) (fun hb=>?_))<;>try simp only [hb]))<;>simp only [go_sem,↓reduceIte,aG,aH,a7,aA,aC,aD,aB,aE,a8,reduceCtorEq,aF,aI,aJ,aK,aL,eE,pick_encB hlt,Int.natCast_nonneg,hlt,hn,hwb])))
    refine d7 TT (by simp only [go_sem,↓reduceIte,a7,aA,aB,a8,reduceCtorEq,Try.results83];rfl) rfl ?_;refine ⟨_,rfl,Int.tmod_nonneg _ hb0.1,fun h=>(tmod_range hb0.1 h).2,rfl,rfl⟩
  · have hz : ((l.length : Int) = 0) = False:=by simp;intro h;rw [h] at hl0;simp at hl0
    have hk1 : p % l.length < l.length:=Nat.mod_lt _ hl0
    have hk2 : (p * 7 + 3) % l.length < l.length:=Nat.mod_lt _ hl0
    have e1 : (p : Int).tmod (l.length : Int) = ((p % l.length : Nat) : Int):=(Int.ofNat_tmod _ _).symm
    have e2 : IntKind.i64.wrap ((p : Int) * 7) = ((p * 7 : Nat) : Int):=by rw [bT (by omega)];omega
    have e3 : IntKind.i64.wrap (((p * 7 : Nat) : Int) + 3) = ((p * 7 + 3 : Nat) : Int):=by rw [bT (by omega)];omega
    have e4 : ((p * 7 + 3 : Nat) : Int).tmod (l.length : Int) = (((p * 7 + 3) % l.length : Nat) : Int):=(Int.ofNat_tmod _ _).symm
    have hb0:=hl.2 _ (List.getElem_mem hk1)
    have hb1:=hl.2 _ (List.getElem_mem hk2)
    have hwb : IntKind.i64.wrap l[p % l.length] = l[p % l.length]:=bT (by omega)
    have hwc : IntKind.i64.wrap l[(p * 7 + 3) % l.length] = l[(p * 7 + 3) % l.length]:=bT (by omega)
    (repeat' (first|with_reducible (first|refine bC ?_|refine b6 ?_|refine b9 ?_|refine bA ?_|refine bD ?_|refine aT ?_|refine b8 ?_|refine aY ?_|refine aS ?_|refine b5 ?_|refine aU ?_|refine b4 rfl ?_|(refine hK _ ?_;clear K hK)|refine aZ rfl ?_|refine aX rfl ?_|intro hfact)|(with_reducible refine And.intro ?_ ?_;focus (first|assumption|omega|(simp;done)|((repeat' apply And.intro)<;>first|assumption|omega)|((repeat' split)<;>omega)))|((first|with_reducible (first|((refine bB TT ?_);intro K hK)|((refine aW TT ?_);intro K hK)|((refine b7 TT [] MX (by kernel_rfl) (by kernel_rfl) ?_);intro K hK)|((refine aV TT [] MX (by kernel_rfl) (by kernel_rfl) ?_);intro K hK))|(with_reducible (first|refine aR TT E (fun hb=>?_) (fun hb=>?_)|refine aQ TT E (fun hb=>?_) (fun hb=>?_)|refine aO TT _ _ (fun hb=>?_) (fun hb=>?_)|refine aP TT _ _ (fun hb=>?_) (fun hb=>?_))<;>try simp only [hb]))<;>simp only [go_sem,↓reduceIte,aG,aH,a7,aA,aC,aD,aB,aE,a8,reduceCtorEq,aF,aI,aJ,aK,aL,eE,pick_encB hk1,pick_encB hk2,Int.natCast_nonneg,hk1,hk2,hn,hz,hwb,hwc,hw2,e1,e2,e3,e4])))
    have hq : 0 ≤ (p : Int).tdiv (l.length : Int) ∧ (p : Int).tdiv (l.length : Int) ≤ p:=by
      rw [Int.tdiv_eq_ediv_of_nonneg (by omega)]
      exact ⟨Int.ediv_nonneg (by omega) (by omega),Int.ediv_le_self _ (by omega)⟩
    generalize l[p % l.length] = b0 at *
    generalize l[(p * 7 + 3) % l.length] = b1 at *
    generalize (p : Int).tdiv (l.length : Int) = q at *
    refine d7 TT (by simp only [go_sem,↓reduceIte,a7,aA,aB,a8,reduceCtorEq,Try.results83];rfl) rfl ?_
    have hx : 0 ≤ b0 * 131 + b1 * 1117 + p * 29 + q * 53 ∧ b0 * 131 + b1 * 1117 + p * 29 + q * 53 < 4611686018427387904:=by omega
    refine ⟨_,rfl,?_⟩
    rw [bT (n:=b0 * 131) (by omega),bT (n:=b1 * 1117) (by omega),bT (n:=b0 * 131 + b1 * 1117) (by omega),bT (n:=(p : Int) * 29) (by omega),bT (n:=b0 * 131 + b1 * 1117 + p * 29) (by omega),bT (n:=q) (by omega),bT (n:=q * 53) (by omega),bT (n:=b0 * 131 + b1 * 1117 + p * 29 + q * 53) (by omega)]
    generalize b0 * 131 + b1 * 1117 + p * 29 + q * 53 = x at *
    have hd : 0 ≤ x.tdiv 64 ∧ x.tdiv 64 < 4611686018427387904:=by
      rw [Int.tdiv_eq_ediv_of_nonneg hx.1]
      omega
    rw [bT (n:=x.tdiv 64) (by omega)]
    have hxx:=xor_small hx hd
    exact ⟨Int.tmod_nonneg _ hxx,fun h=>(tmod_range hxx h).2,rfl,rfl⟩
def isN (n : Int) (v : AV) : Prop:=∃ x,v = I x ∧ 0 ≤ x ∧ (1 ≤ n → x < n)
theorem pick (l : List Int) (p : Nat) (n : Int) (hl : okB l) (hp : p ≤ 1099511627776) : Draw Try.prog 83 l p 1 [I n] (isN n) :=
  ⟨(pick_ok l p n hl hp).mono fun _ v o t _ ⟨x,h1,h2,h3,h4,h5⟩=>⟨⟨x,h1,h2,h3⟩,⟨p + 1,by omega,by omega,h4⟩,h5⟩,by rintro _ ⟨x,rfl,_⟩;rfl,⟨I 0,0,rfl,by omega,by omega⟩⟩
def isB (v : AV) : Prop:=∃ b,v = B b
theorem odd (l : List Int) (p : Nat) (n : Int) (hl : okB l) (hp : p ≤ 1099511627776) : Draw Try.prog 129 l p 1 [I n] isB:=by
  refine ⟨?_,by rintro _ ⟨x,rfl⟩;rfl,⟨B true,_,rfl⟩⟩
  refine bE TT Try.call129 Try.func129 rfl (by simp [Try.ntmps129]) (by kernel_rfl) fun E hk=>?_
  (repeat' (first|with_reducible (first|refine bC ?_|refine b6 ?_|refine b9 ?_|refine bA ?_|refine bD ?_|refine aT ?_|refine b8 ?_|refine aY ?_|refine aS ?_|refine b5 ?_|refine aU ?_|refine b4 rfl ?_|(refine hK _ ?_;clear K hK)|refine aZ rfl ?_|refine aX rfl ?_|intro hfact)|(with_reducible refine And.intro ?_ ?_;focus (first|assumption|omega|(simp;done)|((repeat' apply And.intro)<;>first|assumption|omega)|((repeat' split)<;>omega)))|((first|with_reducible (first|((refine bB TT ?_);intro K hK)|((refine aW TT ?_);intro K hK)|((refine b7 TT [0] MX (by kernel_rfl) (by kernel_rfl) ?_);intro K hK)|((refine aV TT [0] MX (by kernel_rfl) (by kernel_rfl) ?_);intro K hK))|(with_reducible (first|refine aR TT E (fun hb=>?_) (fun hb=>?_)|refine aQ TT E (fun hb=>?_) (fun hb=>?_)|refine aO TT _ _ (fun hb=>?_) (fun hb=>?_)|refine aP TT _ _ (fun hb=>?_) (fun hb=>?_))<;>try simp only [hb])|(((first|refine bK TT E (pick _ _ _ hl (by omega)) rfl rfl ?_|refine bG TT _ _ (pick _ _ _ hl (by omega)) rfl rfl (by simp) ?_);intro r p' m hr hp1 hp2 hm;try dsimp only at hm);obtain ⟨u,rfl,hu1,hu2⟩:=hr))<;>simp only [go_sem,↓reduceIte,aG,aH,a7,aA,aC,aD,aB,aE,a8,reduceCtorEq,aF,aI,aJ,aK,aL])|refine bM rfl (fun hb=>?_) (fun hb=>?_)))
  all_goals
    refine d7 TT (by simp only [go_sem,↓reduceIte,a7,aA,aB,a8,reduceCtorEq,Try.results129];rfl) rfl ?_
    refine ⟨⟨_,rfl⟩,⟨_,?_,?_,rfl⟩,rfl⟩<;>omega
theorem take_encB (l : List Int) (n : Nat) : (encB l).take n = encB (l.take n):=by simp [encB,List.map_take]
theorem okB_take {l : List Int} (hl : ∀ b ∈ l,0 ≤ b ∧ b < 256) : okB (l.take 2000):=⟨by simp;omega,fun b hb=>hl b (List.mem_of_mem_take hb)⟩
theorem open_ok (l : List Int) : AC Try.prog 75 [.d (.sl 1 (encB l) .no)] [] fun _ v o t _=>v = .ptr 0 0 ∧ o = [rd (l.take 2000) 0] ∧ t = []:=by
  refine bE TT Try.call75 Try.func75 rfl (by simp [Try.ntmps75]) (by kernel_rfl) fun E hk=>?_
  (repeat' (first|with_reducible (first|refine bC ?_|refine b6 ?_|refine b9 ?_|refine bA ?_|refine bD ?_|refine aT ?_|refine b8 ?_|refine aY ?_|refine aS ?_|refine b5 ?_|refine aU ?_|refine b4 rfl ?_|(refine hK _ ?_;clear K hK)|refine aZ rfl ?_|refine aX rfl ?_|intro hfact)|(with_reducible refine And.intro ?_ ?_;focus (first|assumption|omega|(simp;done)|((repeat' apply And.intro)<;>first|assumption|omega)|((repeat' split)<;>omega)))|((first|with_reducible (first|((refine bB TT ?_);intro K hK)|((refine aW TT ?_);intro K hK)|((refine b7 TT [] MX (by kernel_rfl) (by kernel_rfl) ?_);intro K hK)|((refine aV TT [] MX (by kernel_rfl) (by kernel_rfl) ?_);intro K hK))|(with_reducible (first|refine aR TT E (fun hb=>?_) (fun hb=>?_)|refine aQ TT E (fun hb=>?_) (fun hb=>?_)|refine aO TT _ _ (fun hb=>?_) (fun hb=>?_)|refine aP TT _ _ (fun hb=>?_) (fun hb=>?_))<;>try simp only [hb]))<;>simp only [go_sem,↓reduceIte,aG,aH,a7,aA,aC,aD,aB,aE,a8,reduceCtorEq,aF,aI,aJ,aK,aL,eE])))
  refine bM rfl (fun hb=>?_) (fun hb=>?_)
  · have h2 : (2000 : Int) ≤ l.length:=by have:=of_decide_eq_true hb;omega
    (repeat' (first|with_reducible (first|refine bC ?_|refine b6 ?_|refine b9 ?_|refine bA ?_|refine bD ?_|refine aT ?_|refine b8 ?_|refine aY ?_|refine aS ?_|refine b5 ?_|refine aU ?_|refine b4 rfl ?_|(refine hK _ ?_;clear K hK)|refine aZ rfl ?_|refine aX rfl ?_|intro hfact)|(with_reducible refine And.intro ?_ ?_;focus (first|assumption|omega|(simp;done)|((repeat' apply And.intro)<;>first|assumption|omega)|((repeat' split)<;>omega)))|((first|with_reducible (first|((refine bB TT ?_);intro K hK)|((refine aW TT ?_);intro K hK)|((refine b7 TT [] MX (by kernel_rfl) (by kernel_rfl) ?_);intro K hK)|((refine aV TT [] MX (by kernel_rfl) (by kernel_rfl) ?_);intro K hK))|(with_reducible (first|refine aR TT E (fun hb=>?_) (fun hb=>?_)|refine aQ TT E (fun hb=>?_) (fun hb=>?_)|refine aO TT _ _ (fun hb=>?_) (fun hb=>?_)|refine aP TT _ _ (fun hb=>?_) (fun hb=>?_))<;>try simp only [hb]))<;>simp only [go_sem,↓reduceIte,aG,aH,a7,aA,aC,aD,aB,aE,a8,reduceCtorEq,aF,aI,aJ,aK,aL,eE,h2])))
    refine cU TT (m:=1) (toks:=[]) (by simp only [go_sem,↓reduceIte,a7,aA,aB,a8,reduceCtorEq,Try.results75];rfl) (Nat.zero_le _) (by simp) rfl ⟨rfl,?_,rfl⟩
    simp [rd,take_encB]
  · have h2 : l.length ≤ 2000:=by have:=of_decide_eq_false hb;omega
    (repeat' (first|with_reducible (first|refine bC ?_|refine b6 ?_|refine b9 ?_|refine bA ?_|refine bD ?_|refine aT ?_|refine b8 ?_|refine aY ?_|refine aS ?_|refine b5 ?_|refine aU ?_|refine b4 rfl ?_|(refine hK _ ?_;clear K hK)|refine aZ rfl ?_|refine aX rfl ?_|intro hfact)|(with_reducible refine And.intro ?_ ?_;focus (first|assumption|omega|(simp;done)|((repeat' apply And.intro)<;>first|assumption|omega)|((repeat' split)<;>omega)))|((first|with_reducible (first|((refine bB TT ?_);intro K hK)|((refine aW TT ?_);intro K hK)|((refine b7 TT [] MX (by kernel_rfl) (by kernel_rfl) ?_);intro K hK)|((refine aV TT [] MX (by kernel_rfl) (by kernel_rfl) ?_);intro K hK))|(with_reducible (first|refine aR TT E (fun hb=>?_) (fun hb=>?_)|refine aQ TT E (fun hb=>?_) (fun hb=>?_)|refine aO TT _ _ (fun hb=>?_) (fun hb=>?_)|refine aP TT _ _ (fun hb=>?_) (fun hb=>?_))<;>try simp only [hb]))<;>simp only [go_sem,↓reduceIte,aG,aH,a7,aA,aC,aD,aB,aE,a8,reduceCtorEq,aF,aI,aJ,aK,aL])))
    refine cU TT (m:=1) (toks:=[]) (by simp only [go_sem,↓reduceIte,a7,aA,aB,a8,reduceCtorEq,Try.results75];rfl) (Nat.zero_le _) (by simp) rfl ⟨rfl,?_,rfl⟩
    simp [rd,List.take_of_length_le h2]
theorem er_encB (l : List Int) : erLL (encB l) = encB l:=by induction l<;>simp_all [encB,erLL,erL,DV.er]
attribute [go_sem] er_encB eE
end Go.Proofs.Ytdfbaedkcfhdfaa
