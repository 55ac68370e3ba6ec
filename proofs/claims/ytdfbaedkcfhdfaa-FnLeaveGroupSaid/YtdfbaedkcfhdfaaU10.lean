import Derived.Test.YtdfbaedkcfhdfaaU8
import Derived.Test.YtdfbaedkcfhdfaaD5
open Int renaming reduceToNat → aF,reduceBEq → aG,reduceBNe → aH,reduceNeg → aI,reduceEq → aJ,reduceLE → aK,reduceLT → aL
open Nat renaming reduceEqDiff → a7,reduceLeDiff → a8,reduceAdd → aA,reduceLT → aB,reduceMul → aC,reduceSub → aD,reduceBEq → aE
namespace Go.Proofs.Ytdfbaedkcfhdfaa
open Go Go.AL
set_option linter.unusedSimpArgs false
set_option linter.unusedVariables false
theorem ascB_of : ∀ {l : List Int} {lo hi : Int},l.Pairwise (· < ·) → (∀ x ∈ l,lo ≤ x ∧ x ≤ hi) → ascB l lo hi = true
  | [],_,_,_,_=>rfl
  | n :: r,lo,hi,hp,hb=>by
    rw [List.pairwise_cons] at hp
    rw [ascB,Bool.and_eq_true,dP]
    exact ⟨hb n (by simp),ascB_of hp.2 fun x hx=>⟨by have:=hp.1 x hx;omega,(hb x (by simp [hx])).2⟩⟩
theorem worldGo_of {n : Nat} : ∀ {l : List Thing} {k : Nat},(∀ (i : Nat) (t : Thing),l[i]? = some t → ascB t.groups 0 (((k + i : Nat) : Int) - 1) = true ∧ cZ t.fields n = true) → d4 n k l = true
  | [],_,_=>rfl
  | x :: l,k,h=>by
    rw [d4,Bool.and_eq_true,Bool.and_eq_true]
    have h0:=h 0 x rfl
    refine ⟨⟨by simpa using h0.1,h0.2⟩,worldGo_of fun i t ht=>?_⟩
    have:=h (i + 1) t (by simpa using ht)
    rw [show k + 1 + i = k + (i + 1) by omega]
    exact this
theorem world_set {w : List Thing} {tn : Nat} {x : Thing} {gs : List Int} (h : worldB w = true) (hx : w[tn]? = some x) (hg : ascB gs 0 ((tn : Int) - 1) = true) : worldB (w.set tn ⟨gs,x.fields⟩) = true:=by
  have hl:=dR h
  simp only [worldB,Bool.and_eq_true,List.length_set]
  refine ⟨worldGo_of fun i t ht=>?_,by simp;omega⟩
  rw [List.getElem?_set] at ht
  split at ht
  · rename_i e
    subst e
    split at ht
    · simp only [Option.some.injEq] at ht
      subst ht
      exact ⟨by simpa using hg,(cW h hx).2⟩
    · cases ht
  · have:=cW h ht
    exact ⟨by simpa using this.1,this.2⟩
theorem inW_mono {w v : List Thing} {g : Int} (h : ∀ (i : Nat),∀ y ∈ (w.getD i ⟨[],[]⟩).groups,y ∈ (v.getD i ⟨[],[]⟩).groups) : ∀ (d : Nat) (t : Int),inW w g d t = true → inW v g d t = true
  | 0,t,ht=>ht
  | d + 1,t,ht=>by
    rw [inW,Bool.or_eq_true] at ht ⊢
    rcases ht with ht|ht
    · exact .inl ht
    · obtain ⟨y,hy,hy2⟩:=List.any_eq_true.1 ht
      exact .inr (List.any_eq_true.2 ⟨y,h _ y hy,inW_mono h d y hy2⟩)
theorem getD_set {w : List Thing} {tn i : Nat} {z d : Thing} (h : tn < w.length) : (w.set tn z).getD i d = if tn = i then z else w.getD i d:=by
  simp only [List.getD_eq_getElem?_getD,List.getElem?_set]
  by_cases e : tn = i
  · subst e;simp [h]
  · simp [e]
theorem insG_mem {l : List Int} {g : Int} (hp : l.Pairwise (· < ·)) (hg : g ∉ l) (z : Int) : z ∈ insG g l ↔ z ∈ l ∨ z = g:=by
  obtain ⟨a,b,h1,h2,h3,h4⟩:=ins_cases l g hp hg
  have hab : insG g l = a ++ ([g] ++ b):=by
    unfold insG
    rw [h2,List.append_assoc]
    congr 2
    rw [h1];simp
  rw [hab,h1]
  simp only [List.mem_append,List.mem_singleton]
  constructor
  · rintro (h|h|h)
    · exact .inl (.inl h)
    · exact .inr h
    · exact .inl (.inr h)
  · rintro ((h|h)|h)
    · exact .inl h
    · exact .inr (.inr h)
    · exact .inr (.inl h)
theorem insG_pw {l : List Int} {g : Int} (hp : l.Pairwise (· < ·)) (hg : g ∉ l) : (insG g l).Pairwise (· < ·) ∧ outG g (insG g l) = l:=by
  obtain ⟨a,b,h1,h2,h3,h4⟩:=ins_cases l g hp hg
  have hab : insG g l = a ++ ([g] ++ b):=by
    unfold insG
    rw [h2,List.append_assoc]
    congr 2
    rw [h1];simp
  rw [hab]
  rw [h1,List.pairwise_append] at hp
  constructor
  · rw [List.pairwise_append]
    refine ⟨hp.1,?_,fun x hx y hy=>?_⟩
    · rw [List.singleton_append,List.pairwise_cons]
      exact ⟨fun y hy=>h4 y hy,hp.2.1⟩
    · have:=h3 x hx
      rw [List.singleton_append,List.mem_cons] at hy
      rcases hy with rfl|hy
      · exact this
      · have:=h4 y hy;omega
  · unfold outG
    have ha : a.filter (fun z=>!(z == g)) = a:=List.filter_eq_self.2 (fun z hz=>by have:=h3 z hz;simp;omega)
    have hb : b.filter (fun z=>!(z == g)) = b:=List.filter_eq_self.2 (fun z hz=>by have:=h4 z hz;simp;omega)
    rw [List.filter_append,List.filter_append,ha,hb,h1]
    simp
theorem ins_out {l : List Int} {g : Int} (hp : l.Pairwise (· < ·)) (hg : g ∈ l) : (outG g l).Pairwise (· < ·) ∧ g ∉ outG g l ∧ insG g (outG g l) = l:=by
  have hpo : (outG g l).Pairwise (· < ·):=hp.filter _
  have hgo : g ∉ outG g l:=by simp [outG]
  refine ⟨hpo,hgo,?_⟩
  have h1:=(insG_pw hpo hgo).1
  have hm : ∀ z,z ∈ insG g (outG g l) ↔ z ∈ l:=fun z=>by
    rw [insG_mem hpo hgo]
    simp only [outG,List.mem_filter]
    constructor
    · rintro (h|rfl)
      · exact h.1
      · exact hg
    · intro h
      by_cases e : z = g
      · exact .inr e
      · exact .inl ⟨h,by simp [e]⟩
  have hperm : (insG g (outG g l)).Perm l:=by
    refine (List.perm_ext_iff_of_nodup (h1.imp fun h=>by omega) (hp.imp fun h=>by omega)).2 hm
  exact hperm.eq_of_pairwise (fun x y _ _ h1 h2=>by omega) h1 hp
structure JoinLaw (w w' : List Thing) (t g : Int) : Prop where
  ok : worldB w' = true
  len : w'.length = w.length
  up : ∀ a b,isInB w a b = true → isInB w' a b = true
  inn : isInB w' t g = true
  back : leaveB w' t g = some w
theorem join_law {w w' : List Thing} {t g : Int} (h : joinB w t g = some w') : JoinLaw w w' t g:=by
  unfold joinB at h
  split at h
  · rename_i hc
    simp only [Bool.and_eq_true,dP] at hc
    obtain ⟨⟨h0,h1⟩,h2⟩:=hc
    split at h
    · rename_i x hx
      split at h
      · cases h
      · rename_i hg
        simp only [Option.some.injEq] at h
        subst h
        obtain ⟨tn,rfl⟩ : ∃ tn : Nat,t = tn:=⟨t.toNat,by omega⟩
        have hx' : w[tn]? = some x:=by simpa using hx
        have htl:=(List.getElem?_eq_some_iff.1 hx').1
        have hpw:=pw_asc (cW h0 hx').1
        obtain ⟨hp2,ho⟩:=insG_pw hpw hg
        have hb:=ascB_mem (cW h0 hx').1
        have hasc : ascB (insG g x.groups) 0 ((tn : Int) - 1) = true:=ascB_of hp2 fun z hz=>by
          rcases (insG_mem hpw hg z).1 hz with h|rfl
          · exact hb z h
          · omega
        have hw' : worldB (w.set tn ⟨insG g x.groups,x.fields⟩) = true:=world_set h0 hx' hasc
        have hgD : ∀ i,∀ y ∈ (w.getD i ⟨[],[]⟩).groups,y ∈ ((w.set tn ⟨insG g x.groups,x.fields⟩).getD i ⟨[],[]⟩).groups:=fun i y hy=>by
          rw [getD_set htl]
          split
          · rename_i e
            subst e
            rw [List.getD_eq_getElem?_getD,hx'] at hy
            exact (insG_mem hpw hg y).2 (.inl hy)
          · exact hy
        simp only [Int.toNat_natCast] at *
        refine ⟨hw',by simp,fun a b hab=>?_,?_,?_⟩
        · simp only [isInB,Bool.and_eq_true,List.length_set] at hab ⊢
          exact ⟨⟨⟨hw',hab.1.1.2⟩,hab.1.2⟩,inW_mono hgD _ _ hab.2⟩
        · simp only [isInB,Bool.and_eq_true,List.length_set,dP]
          refine ⟨⟨⟨hw',h1⟩,by omega⟩,?_⟩
          obtain ⟨d,hd⟩ : ∃ d,w.length = d + 1:=⟨w.length - 1,by omega⟩
          rw [hd,inW,Bool.or_eq_true]
          refine .inr (List.any_eq_true.2 ⟨g,?_,?_⟩)
          · rw [Int.toNat_natCast,getD_set htl,if_pos rfl]
            exact (insG_mem hpw hg g).2 (.inr rfl)
          · cases d<;>simp [inW]
        · have hx2 : (w.set tn ⟨insG g x.groups,x.fields⟩)[tn]? = some ⟨insG g x.groups,x.fields⟩:=by simp [htl]
          unfold leaveB
          rw [if_pos (by simp only [Bool.and_eq_true,dP,List.length_set];exact ⟨hw',h1⟩),Int.toNat_natCast,hx2]
          dsimp only
          rw [if_pos ((insG_mem hpw hg g).2 (.inr rfl)),ho,List.set_set]
          congr 1
          refine List.ext_getElem? fun m=>?_
          rw [List.getElem?_set]
          split
          · rename_i e;subst e;rw [hx']
          · rfl
    · cases h
  · cases h
structure LeaveLaw (w w' : List Thing) (t g : Int) : Prop where
  ok : worldB w' = true
  len : w'.length = w.length
  down : ∀ a b,isInB w' a b = true → isInB w a b = true
  back : joinB w' t g = some w
theorem leave_law {w w' : List Thing} {t g : Int} (h : leaveB w t g = some w') : LeaveLaw w w' t g:=by
  unfold leaveB at h
  split at h
  · rename_i hc
    simp only [Bool.and_eq_true,dP] at hc
    obtain ⟨h0,h1⟩:=hc
    split at h
    · rename_i x hx
      split at h
      · rename_i hg
        simp only [Option.some.injEq] at h
        subst h
        obtain ⟨tn,rfl⟩ : ∃ tn : Nat,t = tn:=⟨t.toNat,by omega⟩
        have hx' : w[tn]? = some x:=by simpa using hx
        have htl:=(List.getElem?_eq_some_iff.1 hx').1
        have hpw:=pw_asc (cW h0 hx').1
        obtain ⟨hp2,hgo,ho⟩:=ins_out hpw hg
        have hb:=ascB_mem (cW h0 hx').1
        have hgb:=hb g hg
        have hasc : ascB (outG g x.groups) 0 ((tn : Int) - 1) = true:=ascB_of hp2 fun z hz=>hb z (List.mem_filter.1 hz).1
        have hw' : worldB (w.set tn ⟨outG g x.groups,x.fields⟩) = true:=world_set h0 hx' hasc
        have hgD : ∀ i,∀ y ∈ ((w.set tn ⟨outG g x.groups,x.fields⟩).getD i ⟨[],[]⟩).groups,y ∈ (w.getD i ⟨[],[]⟩).groups:=fun i y hy=>by
          rw [getD_set htl] at hy
          split at hy
          · rename_i e
            subst e
            rw [List.getD_eq_getElem?_getD,hx']
            exact (List.mem_filter.1 hy).1
          · exact hy
        simp only [Int.toNat_natCast] at *
        refine ⟨hw',by simp,fun a b hab=>?_,?_⟩
        · simp only [isInB,Bool.and_eq_true,List.length_set] at hab ⊢
          exact ⟨⟨⟨h0,hab.1.1.2⟩,hab.1.2⟩,inW_mono hgD _ _ hab.2⟩
        · have hx2 : (w.set tn ⟨outG g x.groups,x.fields⟩)[tn]? = some ⟨outG g x.groups,x.fields⟩:=by simp [htl]
          unfold joinB
          rw [if_pos (by simp only [Bool.and_eq_true,dP,List.length_set];exact ⟨⟨hw',h1⟩,by omega⟩),Int.toNat_natCast,hx2]
          dsimp only
          rw [if_neg hgo,ho,List.set_set]
          congr 1
          refine List.ext_getElem? fun m=>?_
          rw [List.getElem?_set]
          split
          · rename_i e;subst e;rw [hx']
          · rfl
      · cases h
    · cases h
  · cases h
theorem dec_TrueU : dec True = true:=dec_t trivial
theorem cA (l : List Thing) : Gives Try.prog 14 [LT l,LT l] (B true):=by
  refine bE TT Try.call14 Try.func14 rfl (by simp [Try.ntmps14]) (by kernel_rfl) fun E hk=>?_
  (repeat' (first|with_reducible (first|refine bC ?_|refine b6 ?_|refine b9 ?_|refine bA ?_|refine bD ?_|refine aT ?_|refine b8 ?_|refine aY ?_|refine aS ?_|refine b5 ?_|refine aU ?_|refine b4 rfl ?_|(refine hK _ ?_;clear K hK)|refine aZ rfl ?_|refine aX rfl ?_|intro hfact)|(with_reducible refine And.intro ?_ ?_;focus (first|assumption|omega|(simp;done)|((repeat' apply And.intro)<;>first|assumption|omega)|((repeat' split)<;>omega)))|((first|with_reducible (first|((refine bB TT ?_);intro K hK)|((refine aW TT ?_);intro K hK)|((refine b7 TT [] MX (by kernel_rfl) (by kernel_rfl) ?_);intro K hK)|((refine aV TT [] MX (by kernel_rfl) (by kernel_rfl) ?_);intro K hK))|(with_reducible (first|refine aR TT E (fun hb=>?_) (fun hb=>?_)|refine aQ TT E (fun hb=>?_) (fun hb=>?_)|refine aO TT _ _ (fun hb=>?_) (fun hb=>?_)|refine aP TT _ _ (fun hb=>?_) (fun hb=>?_))<;>try simp only [hb])|((first|refine aN TT E (si_ok _ _) rfl rfl ?_|refine aM TT _ _ (si_ok _ _) rfl rfl ?_);intro m hm;try dsimp only at hm)|((first|refine aN TT E (sf_ok _ _) rfl rfl ?_|refine aM TT _ _ (sf_ok _ _) rfl rfl ?_);intro m hm;try dsimp only at hm))<;>simp only [go_sem,↓reduceIte,aG,aH,a7,aA,aC,aD,aB,aE,a8,reduceCtorEq,aF,aI,aJ,aK,aL,bne_self_eq_false])))
  refine cE (l) (List.length (l)) 0 [] [0,1] (fun i s=>[(5,I i)]) (fun obs i s=>obs) (fun i s=>[]) (fun i rest s nt=>True) (()) (by first|rfl|(simp;done)|(simp;omega)) (by first|rfl|(simp only [go_sem,↓reduceIte,a7,aA,aB,a8,reduceCtorEq];done)|(simp only [go_sem,↓reduceIte,a7,aA,aB,a8,reduceCtorEq];simp;done)) (by simp only [go_sem,↓reduceIte,a7,aA,aB,a8,reduceCtorEq];rfl) (by first|rfl|(simp only [go_sem,↓reduceIte,a7,aA,aB,a8,reduceCtorEq];rfl)) (trivial) (by unfold ASubW;simp only [go_sem,↓reduceIte,a7,aA,aB,a8,reduceCtorEq,hk];try simp) ?_ ?_
  · rintro s nt hmax _
    (repeat' (first|with_reducible (first|refine bC ?_|refine b6 ?_|refine b9 ?_|refine bA ?_|refine bD ?_|refine aT ?_|refine b8 ?_|refine aY ?_|refine aS ?_|refine b5 ?_|refine aU ?_|refine b4 rfl ?_|(refine hK _ ?_;clear K hK)|refine aZ rfl ?_|refine aX rfl ?_|intro hfact)|(with_reducible refine And.intro ?_ ?_;focus (first|assumption|omega|(simp;done)|((repeat' apply And.intro)<;>first|assumption|omega)|((repeat' split)<;>omega)))|((first|with_reducible (first|((refine bB TT ?_);intro K hK)|((refine aW TT ?_);intro K hK)|((refine b7 TT [] MX (by kernel_rfl) (by kernel_rfl) ?_);intro K hK)|((refine aV TT [] MX (by kernel_rfl) (by kernel_rfl) ?_);intro K hK))|(with_reducible (first|refine aR TT E (fun hb=>?_) (fun hb=>?_)|refine aQ TT E (fun hb=>?_) (fun hb=>?_)|refine aO TT _ _ (fun hb=>?_) (fun hb=>?_)|refine aP TT _ _ (fun hb=>?_) (fun hb=>?_))<;>try simp only [hb])|((first|refine aN TT E (si_ok _ _) rfl rfl ?_|refine aM TT _ _ (si_ok _ _) rfl rfl ?_);intro m hm;try dsimp only at hm)|((first|refine aN TT E (sf_ok _ _) rfl rfl ?_|refine aM TT _ _ (sf_ok _ _) rfl rfl ?_);intro m hm;try dsimp only at hm))<;>simp only [go_sem,↓reduceIte,aG,aH,a7,aA,aC,aD,aB,aE,a8,reduceCtorEq,aF,aI,aJ,aK,aL])))
    refine bF TT (by simp only [go_sem,↓reduceIte,a7,aA,aB,a8,reduceCtorEq,Try.results14];rfl) rfl ?_;rfl
  · rintro k x rest s nt hA _
    have hdf : dec (x.fields = x.fields) = true:=dec_t rfl
    have hdi : decide (x.groups = x.groups) = true:=by simp
    (repeat' (first|with_reducible (first|refine bC ?_|refine b6 ?_|refine b9 ?_|refine bA ?_|refine bD ?_|refine aT ?_|refine b8 ?_|refine aY ?_|refine aS ?_|refine b5 ?_|refine aU ?_|refine b4 rfl ?_|(refine hK _ ?_;clear K hK)|refine aZ rfl ?_|refine aX rfl ?_|intro hfact)|(with_reducible refine And.intro ?_ ?_;focus (first|assumption|omega|(simp;done)|((repeat' apply And.intro)<;>first|assumption|omega)|((repeat' split)<;>omega)))|((first|with_reducible (first|((refine bB TT ?_);intro K hK)|((refine aW TT ?_);intro K hK)|((refine b7 TT [] MX (by kernel_rfl) (by kernel_rfl) ?_);intro K hK)|((refine aV TT [] MX (by kernel_rfl) (by kernel_rfl) ?_);intro K hK))|(with_reducible (first|refine aR TT E (fun hb=>?_) (fun hb=>?_)|refine aQ TT E (fun hb=>?_) (fun hb=>?_)|refine aO TT _ _ (fun hb=>?_) (fun hb=>?_)|refine aP TT _ _ (fun hb=>?_) (fun hb=>?_))<;>try simp only [hb])|((first|refine aN TT E (si_ok _ _) rfl rfl ?_|refine aM TT _ _ (si_ok _ _) rfl rfl ?_);intro m hm;try dsimp only at hm)|((first|refine aN TT E (sf_ok _ _) rfl rfl ?_|refine aM TT _ _ (sf_ok _ _) rfl rfl ?_);intro m hm;try dsimp only at hm))<;>simp only [go_sem,↓reduceIte,aG,aH,a7,aA,aC,aD,aB,aE,a8,reduceCtorEq,aF,aI,aJ,aK,aL,hA.d,hA.w,hA.lt,hA.g,encT,dec_TrueU,decide_true])))
    refine ⟨(),trivial,(by unfold ASubW;simp only [go_sem,↓reduceIte,a7,aA,aB,a8,reduceCtorEq,hk];try simp)⟩
theorem cast0U : ((0 : Nat) : Int) = 0:=rfl
theorem sw_nil : Gives Try.prog 14 [.d (.sl 2 [] .no),.d (.sl 2 [] .no)] (B true):=cA []
def isJ3 (v : AV) : Prop:=∃ (w : List Thing) (t g : Int),v = .tup [LT w,I t,I g]
theorem dIsIn_ok (l : List Int) (hl : ∀ b ∈ l,0 ≤ b ∧ b < 256) : GivesR Try.prog 50 [.d (.sl 1 (encB l) .no)] (isJ3):=by
  refine bE TT Try.call50 Try.func50 rfl (by simp [Try.ntmps50]) (by kernel_rfl) fun E hk=>?_
  have hl:=okB_take hl
  (repeat' (first|with_reducible (first|refine bC ?_|refine b6 ?_|refine b9 ?_|refine bA ?_|refine bD ?_|refine aT ?_|refine b8 ?_|refine aY ?_|refine aS ?_|refine b5 ?_|refine aU ?_|refine b4 rfl ?_|(refine hK _ ?_;clear K hK)|refine aZ rfl ?_|refine aX rfl ?_|intro hfact)|(with_reducible refine And.intro ?_ ?_;focus (first|assumption|omega|(simp;done)|((repeat' apply And.intro)<;>first|assumption|omega)|((repeat' split)<;>omega)))|((first|with_reducible (first|((refine bB TT ?_);intro K hK)|((refine aW TT ?_);intro K hK)|((refine b7 TT [0] MX (by kernel_rfl) (by kernel_rfl) ?_);intro K hK)|((refine aV TT [0] MX (by kernel_rfl) (by kernel_rfl) ?_);intro K hK))|(with_reducible (first|refine aR TT E (fun hb=>?_) (fun hb=>?_)|refine aQ TT E (fun hb=>?_) (fun hb=>?_)|refine aO TT _ _ (fun hb=>?_) (fun hb=>?_)|refine aP TT _ _ (fun hb=>?_) (fun hb=>?_))<;>try simp only [hb])|(refine dF TT E [] (open_ok l) rfl rfl rfl List.nodup_nil ?_;rintro r os ts m ⟨rfl,rfl,rfl⟩)|(((first|refine bK TT E (pick _ _ _ hl (by omega)) rfl rfl ?_|refine bG TT _ _ (pick _ _ _ hl (by omega)) rfl rfl (by simp) ?_);intro r p' m hr hp1 hp2 hm;try dsimp only at hm);obtain ⟨u,rfl,hu1,hu2⟩:=hr)|(((first|refine bK TT E (l20Things_ok _ _ _ hl (by omega)) rfl rfl ?_|refine bG TT _ _ (l20Things_ok _ _ _ hl (by omega)) rfl rfl (by simp) ?_);intro r p' m hr hp1 hp2 hm;try dsimp only at hm);obtain ⟨w,rfl,hw9⟩:=hr))<;>simp only [go_sem,↓reduceIte,aG,aH,a7,aA,aC,aD,aB,aE,a8,reduceCtorEq,aF,aI,aJ,aK,aL])|refine c6 rfl (fun hb=>?_) (fun hb=>?_)|refine bW rfl (fun hb=>?_) (fun hb=>?_)|refine bM rfl (fun hb=>?_) (fun hb=>?_)))
  all_goals refine ret_givesR TT (by simp only [go_sem,↓reduceIte,a7,aA,aB,a8,reduceCtorEq,Try.results50];rfl) rfl ?_
  all_goals exact ⟨_,_,_,rfl⟩
theorem dJoin_ok (l : List Int) (hl : ∀ b ∈ l,0 ≤ b ∧ b < 256) : GivesR Try.prog 24 [.d (.sl 1 (encB l) .no)] (isJ3):=by
  refine bE TT Try.call24 Try.func24 rfl (by simp [Try.ntmps24]) (by kernel_rfl) fun E hk=>?_
  (repeat' (first|with_reducible (first|refine bC ?_|refine b6 ?_|refine b9 ?_|refine bA ?_|refine bD ?_|refine aT ?_|refine b8 ?_|refine aY ?_|refine aS ?_|refine b5 ?_|refine aU ?_|refine b4 rfl ?_|(refine hK _ ?_;clear K hK)|refine aZ rfl ?_|refine aX rfl ?_|intro hfact)|(with_reducible refine And.intro ?_ ?_;focus (first|assumption|omega|(simp;done)|((repeat' apply And.intro)<;>first|assumption|omega)|((repeat' split)<;>omega)))|((first|with_reducible (first|((refine bB TT ?_);intro K hK)|((refine aW TT ?_);intro K hK)|((refine b7 TT [] MX (by kernel_rfl) (by kernel_rfl) ?_);intro K hK)|((refine aV TT [] MX (by kernel_rfl) (by kernel_rfl) ?_);intro K hK))|(with_reducible (first|refine aR TT E (fun hb=>?_) (fun hb=>?_)|refine aQ TT E (fun hb=>?_) (fun hb=>?_)|refine aO TT _ _ (fun hb=>?_) (fun hb=>?_)|refine aP TT _ _ (fun hb=>?_) (fun hb=>?_))<;>try simp only [hb])|(refine dW TT E (dIsIn_ok _ (by assumption)) rfl ?_;rintro r m ⟨w,t,g,rfl⟩ hm))<;>simp only [go_sem,↓reduceIte,aG,aH,a7,aA,aC,aD,aB,aE,a8,reduceCtorEq,aF,aI,aJ,aK,aL])))
  refine ret_givesR TT (by simp only [go_sem,↓reduceIte,a7,aA,aB,a8,reduceCtorEq,Try.results24];rfl) rfl ?_
  exact ⟨_,_,_,rfl⟩
theorem dLeave_ok (l : List Int) (hl : ∀ b ∈ l,0 ≤ b ∧ b < 256) : GivesR Try.prog 11 [.d (.sl 1 (encB l) .no)] (isJ3):=by
  refine bE TT Try.call11 Try.func11 rfl (by simp [Try.ntmps11]) (by kernel_rfl) fun E hk=>?_
  (repeat' (first|with_reducible (first|refine bC ?_|refine b6 ?_|refine b9 ?_|refine bA ?_|refine bD ?_|refine aT ?_|refine b8 ?_|refine aY ?_|refine aS ?_|refine b5 ?_|refine aU ?_|refine b4 rfl ?_|(refine hK _ ?_;clear K hK)|refine aZ rfl ?_|refine aX rfl ?_|intro hfact)|(with_reducible refine And.intro ?_ ?_;focus (first|assumption|omega|(simp;done)|((repeat' apply And.intro)<;>first|assumption|omega)|((repeat' split)<;>omega)))|((first|with_reducible (first|((refine bB TT ?_);intro K hK)|((refine aW TT ?_);intro K hK)|((refine b7 TT [] MX (by kernel_rfl) (by kernel_rfl) ?_);intro K hK)|((refine aV TT [] MX (by kernel_rfl) (by kernel_rfl) ?_);intro K hK))|(with_reducible (first|refine aR TT E (fun hb=>?_) (fun hb=>?_)|refine aQ TT E (fun hb=>?_) (fun hb=>?_)|refine aO TT _ _ (fun hb=>?_) (fun hb=>?_)|refine aP TT _ _ (fun hb=>?_) (fun hb=>?_))<;>try simp only [hb])|(refine dW TT E (dIsIn_ok _ (by assumption)) rfl ?_;rintro r m ⟨w,t,g,rfl⟩ hm))<;>simp only [go_sem,↓reduceIte,aG,aH,a7,aA,aC,aD,aB,aE,a8,reduceCtorEq,aF,aI,aJ,aK,aL])))
  refine ret_givesR TT (by simp only [go_sem,↓reduceIte,a7,aA,aB,a8,reduceCtorEq,Try.results11];rfl) rfl ?_
  exact ⟨_,_,_,rfl⟩
theorem joinE (w : List Thing) (t g : Int) : Gives Try.prog 17 [LT w,I t,I g] (joinA (joinB w t g)):=(AC.noTok (joinO w t g)).erM fun n r o t m ⟨h1,t9,h2⟩=>⟨h2.2.2.2.1,h2.1,h1⟩
theorem leaveE (w : List Thing) (t g : Int) : Gives Try.prog 12 [LT w,I t,I g] (joinA (leaveB w t g)):=(AC.noTok (leaveO w t g)).erM fun n r o t m ⟨h1,t9,h2⟩=>⟨h2.2.2.2.1,h2.1,h1⟩
theorem law_join (l : List Int) (hl : ∀ b ∈ l,0 ≤ b ∧ b < 256) : Gives Try.prog 5 [.d (.sl 1 (encB l) .no)] (B true):=by
  refine bE TT Try.call5 Try.func5 rfl (by simp [Try.ntmps5]) (by kernel_rfl) fun E hk=>?_
  (repeat' (first|with_reducible (first|refine bC ?_|refine b6 ?_|refine b9 ?_|refine bA ?_|refine bD ?_|refine aT ?_|refine b8 ?_|refine aY ?_|refine aS ?_|refine b5 ?_|refine aU ?_|refine b4 rfl ?_|(refine hK _ ?_;clear K hK)|refine aZ rfl ?_|refine aX rfl ?_|intro hfact)|(with_reducible refine And.intro ?_ ?_;focus (first|assumption|omega|(simp;done)|((repeat' apply And.intro)<;>first|assumption|omega)|((repeat' split)<;>omega)))|((first|with_reducible (first|((refine bB TT ?_);intro K hK)|((refine aW TT ?_);intro K hK)|((refine b7 TT [] MX (by kernel_rfl) (by kernel_rfl) ?_);intro K hK)|((refine aV TT [] MX (by kernel_rfl) (by kernel_rfl) ?_);intro K hK))|(with_reducible (first|refine aR TT E (fun hb=>?_) (fun hb=>?_)|refine aQ TT E (fun hb=>?_) (fun hb=>?_)|refine aO TT _ _ (fun hb=>?_) (fun hb=>?_)|refine aP TT _ _ (fun hb=>?_) (fun hb=>?_))<;>try simp only [hb])|((first|refine aN TT E (cA _) rfl rfl ?_|refine aM TT _ _ (cA _) rfl rfl ?_);intro m hm;try dsimp only at hm)|((first|refine aN TT E (bO ) rfl rfl ?_|refine aM TT _ _ (bO ) rfl rfl ?_);intro m hm;try dsimp only at hm)|((first|refine aN TT E (bR _ _ _) rfl rfl ?_|refine aM TT _ _ (bR _ _ _) rfl rfl ?_);intro m hm;try dsimp only at hm)|((first|refine aN TT E (bP _) rfl rfl ?_|refine aM TT _ _ (bP _) rfl rfl ?_);intro m hm;try dsimp only at hm)|((first|refine aN TT E (c7 _ _ _) rfl rfl ?_|refine aM TT _ _ (c7 _ _ _) rfl rfl ?_);intro m hm;try dsimp only at hm))<;>simp only [go_sem,↓reduceIte,aG,aH,a7,aA,aC,aD,aB,aE,a8,reduceCtorEq,aF,aI,aJ,aK,aL])))
  refine bW rfl (fun hb=>?_) (fun hb=>?_)
  · (repeat' (first|with_reducible (first|refine bC ?_|refine b6 ?_|refine b9 ?_|refine bA ?_|refine bD ?_|refine aT ?_|refine b8 ?_|refine aY ?_|refine aS ?_|refine b5 ?_|refine aU ?_|refine b4 rfl ?_|(refine hK _ ?_;clear K hK)|refine aZ rfl ?_|refine aX rfl ?_|intro hfact)|(with_reducible refine And.intro ?_ ?_;focus (first|assumption|omega|(simp;done)|((repeat' apply And.intro)<;>first|assumption|omega)|((repeat' split)<;>omega)))|((first|with_reducible (first|((refine bB TT ?_);intro K hK)|((refine aW TT ?_);intro K hK)|((refine b7 TT [] MX (by kernel_rfl) (by kernel_rfl) ?_);intro K hK)|((refine aV TT [] MX (by kernel_rfl) (by kernel_rfl) ?_);intro K hK))|(with_reducible (first|refine aR TT E (fun hb=>?_) (fun hb=>?_)|refine aQ TT E (fun hb=>?_) (fun hb=>?_)|refine aO TT _ _ (fun hb=>?_) (fun hb=>?_)|refine aP TT _ _ (fun hb=>?_) (fun hb=>?_))<;>try simp only [hb])|((first|refine aN TT E (cA _) rfl rfl ?_|refine aM TT _ _ (cA _) rfl rfl ?_);intro m hm;try dsimp only at hm)|((first|refine aN TT E (bO ) rfl rfl ?_|refine aM TT _ _ (bO ) rfl rfl ?_);intro m hm;try dsimp only at hm)|((first|refine aN TT E (bR _ _ _) rfl rfl ?_|refine aM TT _ _ (bR _ _ _) rfl rfl ?_);intro m hm;try dsimp only at hm)|((first|refine aN TT E (bP _) rfl rfl ?_|refine aM TT _ _ (bP _) rfl rfl ?_);intro m hm;try dsimp only at hm)|((first|refine aN TT E (c7 _ _ _) rfl rfl ?_|refine aM TT _ _ (c7 _ _ _) rfl rfl ?_);intro m hm;try dsimp only at hm))<;>simp only [go_sem,↓reduceIte,aG,aH,a7,aA,aC,aD,aB,aE,a8,reduceCtorEq,aF,aI,aJ,aK,aL])))
    refine bF TT (by simp only [go_sem,↓reduceIte,a7,aA,aB,a8,reduceCtorEq,Try.results5];rfl) rfl ?_;rfl
  (repeat' (first|with_reducible (first|refine bC ?_|refine b6 ?_|refine b9 ?_|refine bA ?_|refine bD ?_|refine aT ?_|refine b8 ?_|refine aY ?_|refine aS ?_|refine b5 ?_|refine aU ?_|refine b4 rfl ?_|(refine hK _ ?_;clear K hK)|refine aZ rfl ?_|refine aX rfl ?_|intro hfact)|(with_reducible refine And.intro ?_ ?_;focus (first|assumption|omega|(simp;done)|((repeat' apply And.intro)<;>first|assumption|omega)|((repeat' split)<;>omega)))|((first|with_reducible (first|((refine bB TT ?_);intro K hK)|((refine aW TT ?_);intro K hK)|((refine b7 TT [] MX (by kernel_rfl) (by kernel_rfl) ?_);intro K hK)|((refine aV TT [] MX (by kernel_rfl) (by kernel_rfl) ?_);intro K hK))|(with_reducible (first|refine aR TT E (fun hb=>?_) (fun hb=>?_)|refine aQ TT E (fun hb=>?_) (fun hb=>?_)|refine aO TT _ _ (fun hb=>?_) (fun hb=>?_)|refine aP TT _ _ (fun hb=>?_) (fun hb=>?_))<;>try simp only [hb])|(refine dW TT E (dJoin_ok _ (by assumption)) rfl ?_;rintro r m ⟨w,t,g,rfl⟩ hm))<;>simp only [go_sem,↓reduceIte,aG,aH,a7,aA,aC,aD,aB,aE,a8,reduceCtorEq,aF,aI,aJ,aK,aL])))
  have hi:=joinE w t g
  have hsp:=c7 w t g
  cases hj : joinB w t g with
  | none =>
    rw [hj] at hi hsp
    simp only [joinA] at hi hsp
    (repeat' (first|with_reducible (first|refine bC ?_|refine b6 ?_|refine b9 ?_|refine bA ?_|refine bD ?_|refine aT ?_|refine b8 ?_|refine aY ?_|refine aS ?_|refine b5 ?_|refine aU ?_|refine b4 rfl ?_|(refine hK _ ?_;clear K hK)|refine aZ rfl ?_|refine aX rfl ?_|intro hfact)|(with_reducible refine And.intro ?_ ?_;focus (first|assumption|omega|(simp;done)|((repeat' apply And.intro)<;>first|assumption|omega)|((repeat' split)<;>omega)))|((first|with_reducible (first|((refine bB TT ?_);intro K hK)|((refine aW TT ?_);intro K hK)|((refine b7 TT [] MX (by kernel_rfl) (by kernel_rfl) ?_);intro K hK)|((refine aV TT [] MX (by kernel_rfl) (by kernel_rfl) ?_);intro K hK))|(with_reducible (first|refine aR TT E (fun hb=>?_) (fun hb=>?_)|refine aQ TT E (fun hb=>?_) (fun hb=>?_)|refine aO TT _ _ (fun hb=>?_) (fun hb=>?_)|refine aP TT _ _ (fun hb=>?_) (fun hb=>?_))<;>try simp only [hb])|((first|refine aN TT E (hi) rfl rfl ?_|refine aM TT _ _ (hi) rfl rfl ?_);intro m hm;try dsimp only at hm)|((first|refine aN TT E (hsp) rfl rfl ?_|refine aM TT _ _ (hsp) rfl rfl ?_);intro m hm;try dsimp only at hm)|((first|refine aN TT E (sw_nil) rfl rfl ?_|refine aM TT _ _ (sw_nil) rfl rfl ?_);intro m hm;try dsimp only at hm)|((first|refine aN TT E (cA _) rfl rfl ?_|refine aM TT _ _ (cA _) rfl rfl ?_);intro m hm;try dsimp only at hm)|((first|refine aN TT E (bO ) rfl rfl ?_|refine aM TT _ _ (bO ) rfl rfl ?_);intro m hm;try dsimp only at hm)|((first|refine aN TT E (bR _ _ _) rfl rfl ?_|refine aM TT _ _ (bR _ _ _) rfl rfl ?_);intro m hm;try dsimp only at hm)|((first|refine aN TT E (bP _) rfl rfl ?_|refine aM TT _ _ (bP _) rfl rfl ?_);intro m hm;try dsimp only at hm)|((first|refine aN TT E (c7 _ _ _) rfl rfl ?_|refine aM TT _ _ (c7 _ _ _) rfl rfl ?_);intro m hm;try dsimp only at hm))<;>simp only [go_sem,↓reduceIte,aG,aH,a7,aA,aC,aD,aB,aE,a8,reduceCtorEq,aF,aI,aJ,aK,aL,bne_self_eq_false,cast0U])))
    refine bF TT (by simp only [go_sem,↓reduceIte,a7,aA,aB,a8,reduceCtorEq,Try.results5];rfl) rfl ?_;rfl
  | some w' =>
    rw [hj] at hi hsp
    simp only [joinA] at hi hsp
    obtain ⟨q1,q2,q3,q4,q5⟩:=join_law hj
    have hlv:=leaveE w' t g
    rw [q5] at hlv
    simp only [joinA] at hlv
    (repeat' (first|with_reducible (first|refine bC ?_|refine b6 ?_|refine b9 ?_|refine bA ?_|refine bD ?_|refine aT ?_|refine b8 ?_|refine aY ?_|refine aS ?_|refine b5 ?_|refine aU ?_|refine b4 rfl ?_|(refine hK _ ?_;clear K hK)|refine aZ rfl ?_|refine aX rfl ?_|intro hfact)|(with_reducible refine And.intro ?_ ?_;focus (first|assumption|omega|(simp;done)|((repeat' apply And.intro)<;>first|assumption|omega)|((repeat' split)<;>omega)))|((first|with_reducible (first|((refine bB TT ?_);intro K hK)|((refine aW TT ?_);intro K hK)|((refine b7 TT [] MX (by kernel_rfl) (by kernel_rfl) ?_);intro K hK)|((refine aV TT [] MX (by kernel_rfl) (by kernel_rfl) ?_);intro K hK))|(with_reducible (first|refine aR TT E (fun hb=>?_) (fun hb=>?_)|refine aQ TT E (fun hb=>?_) (fun hb=>?_)|refine aO TT _ _ (fun hb=>?_) (fun hb=>?_)|refine aP TT _ _ (fun hb=>?_) (fun hb=>?_))<;>try simp only [hb])|((first|refine aN TT E (hi) rfl rfl ?_|refine aM TT _ _ (hi) rfl rfl ?_);intro m hm;try dsimp only at hm)|((first|refine aN TT E (hsp) rfl rfl ?_|refine aM TT _ _ (hsp) rfl rfl ?_);intro m hm;try dsimp only at hm)|((first|refine aN TT E (cA _) rfl rfl ?_|refine aM TT _ _ (cA _) rfl rfl ?_);intro m hm;try dsimp only at hm)|((first|refine aN TT E (bO ) rfl rfl ?_|refine aM TT _ _ (bO ) rfl rfl ?_);intro m hm;try dsimp only at hm)|((first|refine aN TT E (bR _ _ _) rfl rfl ?_|refine aM TT _ _ (bR _ _ _) rfl rfl ?_);intro m hm;try dsimp only at hm)|((first|refine aN TT E (bP _) rfl rfl ?_|refine aM TT _ _ (bP _) rfl rfl ?_);intro m hm;try dsimp only at hm)|((first|refine aN TT E (c7 _ _ _) rfl rfl ?_|refine aM TT _ _ (c7 _ _ _) rfl rfl ?_);intro m hm;try dsimp only at hm))<;>simp only [go_sem,↓reduceIte,aG,aH,a7,aA,aC,aD,aB,aE,a8,reduceCtorEq,aF,aI,aJ,aK,aL,bne_self_eq_false])))
    refine cE (w) (List.length (w)) 3 [] [3,4,5,6] (fun k s=>[(10,I k)]) (fun obs k s=>obs) (fun k s=>[]) (fun k rest s nt=>True) (()) (by first|rfl|(simp;done)|(simp;omega)) (by first|rfl|(simp only [go_sem,↓reduceIte,a7,aA,aB,a8,reduceCtorEq];done)|(simp only [go_sem,↓reduceIte,a7,aA,aB,a8,reduceCtorEq];simp;done)) (by simp only [go_sem,↓reduceIte,a7,aA,aB,a8,reduceCtorEq];rfl) (by first|rfl|(simp only [go_sem,↓reduceIte,a7,aA,aB,a8,reduceCtorEq];rfl)) (trivial) (by unfold ASubW;simp only [go_sem,↓reduceIte,a7,aA,aB,a8,reduceCtorEq,hk];try simp) ?_ ?_
    · rintro s nt hmax _
      (repeat' (first|with_reducible (first|refine bC ?_|refine b6 ?_|refine b9 ?_|refine bA ?_|refine bD ?_|refine aT ?_|refine b8 ?_|refine aY ?_|refine aS ?_|refine b5 ?_|refine aU ?_|refine b4 rfl ?_|(refine hK _ ?_;clear K hK)|refine aZ rfl ?_|refine aX rfl ?_|intro hfact)|(with_reducible refine And.intro ?_ ?_;focus (first|assumption|omega|(simp;done)|((repeat' apply And.intro)<;>first|assumption|omega)|((repeat' split)<;>omega)))|((first|with_reducible (first|((refine bB TT ?_);intro K hK)|((refine aW TT ?_);intro K hK)|((refine b7 TT [] MX (by kernel_rfl) (by kernel_rfl) ?_);intro K hK)|((refine aV TT [] MX (by kernel_rfl) (by kernel_rfl) ?_);intro K hK))|(with_reducible (first|refine aR TT E (fun hb=>?_) (fun hb=>?_)|refine aQ TT E (fun hb=>?_) (fun hb=>?_)|refine aO TT _ _ (fun hb=>?_) (fun hb=>?_)|refine aP TT _ _ (fun hb=>?_) (fun hb=>?_))<;>try simp only [hb])|((first|refine aN TT E (hlv) rfl rfl ?_|refine aM TT _ _ (hlv) rfl rfl ?_);intro m hm;try dsimp only at hm)|((first|refine aN TT E (cA _) rfl rfl ?_|refine aM TT _ _ (cA _) rfl rfl ?_);intro m hm;try dsimp only at hm)|((first|refine aN TT E (bO ) rfl rfl ?_|refine aM TT _ _ (bO ) rfl rfl ?_);intro m hm;try dsimp only at hm)|((first|refine aN TT E (bR _ _ _) rfl rfl ?_|refine aM TT _ _ (bR _ _ _) rfl rfl ?_);intro m hm;try dsimp only at hm)|((first|refine aN TT E (bP _) rfl rfl ?_|refine aM TT _ _ (bP _) rfl rfl ?_);intro m hm;try dsimp only at hm)|((first|refine aN TT E (c7 _ _ _) rfl rfl ?_|refine aM TT _ _ (c7 _ _ _) rfl rfl ?_);intro m hm;try dsimp only at hm))<;>simp only [go_sem,↓reduceIte,aG,aH,a7,aA,aC,aD,aB,aE,a8,reduceCtorEq,aF,aI,aJ,aK,aL,q1,q4])))
      refine bF TT (by simp only [go_sem,↓reduceIte,a7,aA,aB,a8,reduceCtorEq,Try.results5];rfl) rfl ?_;rfl
    · rintro k x rest s nt hA _
      (repeat' (first|with_reducible (first|refine bC ?_|refine b6 ?_|refine b9 ?_|refine bA ?_|refine bD ?_|refine aT ?_|refine b8 ?_|refine aY ?_|refine aS ?_|refine b5 ?_|refine aU ?_|refine b4 rfl ?_|(refine hK _ ?_;clear K hK)|refine aZ rfl ?_|refine aX rfl ?_|intro hfact)|(with_reducible refine And.intro ?_ ?_;focus (first|assumption|omega|(simp;done)|((repeat' apply And.intro)<;>first|assumption|omega)|((repeat' split)<;>omega)))|((first|with_reducible (first|((refine bB TT ?_);intro K hK)|((refine aW TT ?_);intro K hK)|((refine b7 TT [] MX (by kernel_rfl) (by kernel_rfl) ?_);intro K hK)|((refine aV TT [] MX (by kernel_rfl) (by kernel_rfl) ?_);intro K hK))|(with_reducible (first|refine aR TT E (fun hb=>?_) (fun hb=>?_)|refine aQ TT E (fun hb=>?_) (fun hb=>?_)|refine aO TT _ _ (fun hb=>?_) (fun hb=>?_)|refine aP TT _ _ (fun hb=>?_) (fun hb=>?_))<;>try simp only [hb])|((first|refine aN TT E (cA _) rfl rfl ?_|refine aM TT _ _ (cA _) rfl rfl ?_);intro m hm;try dsimp only at hm)|((first|refine aN TT E (bO ) rfl rfl ?_|refine aM TT _ _ (bO ) rfl rfl ?_);intro m hm;try dsimp only at hm)|((first|refine aN TT E (bR _ _ _) rfl rfl ?_|refine aM TT _ _ (bR _ _ _) rfl rfl ?_);intro m hm;try dsimp only at hm)|((first|refine aN TT E (bP _) rfl rfl ?_|refine aM TT _ _ (bP _) rfl rfl ?_);intro m hm;try dsimp only at hm)|((first|refine aN TT E (c7 _ _ _) rfl rfl ?_|refine aM TT _ _ (c7 _ _ _) rfl rfl ?_);intro m hm;try dsimp only at hm))<;>simp only [go_sem,↓reduceIte,aG,aH,a7,aA,aC,aD,aB,aE,a8,reduceCtorEq,aF,aI,aJ,aK,aL,hA.d,hA.w,hA.lt])))
      refine cE (w) (List.length (w)) 3 [] [3,4,5,6,10] (fun j s2=>[(11,I j)]) (fun obs j s2=>obs) (fun j s2=>[]) (fun j rest s2 nt=>True) (()) (by first|rfl|(simp;done)|(simp;omega)) (by first|rfl|(simp only [go_sem,↓reduceIte,a7,aA,aB,a8,reduceCtorEq];done)|(simp only [go_sem,↓reduceIte,a7,aA,aB,a8,reduceCtorEq];simp;done)) (by simp only [go_sem,↓reduceIte,a7,aA,aB,a8,reduceCtorEq];rfl) (by first|rfl|(simp only [go_sem,↓reduceIte,a7,aA,aB,a8,reduceCtorEq];rfl)) (trivial) (by unfold ASubW;simp only [go_sem,↓reduceIte,a7,aA,aB,a8,reduceCtorEq,hk];try simp) ?_ ?_
      · rintro s2 nt2 hmax2 _
        (repeat' (first|with_reducible (first|refine bC ?_|refine b6 ?_|refine b9 ?_|refine bA ?_|refine bD ?_|refine aT ?_|refine b8 ?_|refine aY ?_|refine aS ?_|refine b5 ?_|refine aU ?_|refine b4 rfl ?_|(refine hK _ ?_;clear K hK)|refine aZ rfl ?_|refine aX rfl ?_|intro hfact)|(with_reducible refine And.intro ?_ ?_;focus (first|assumption|omega|(simp;done)|((repeat' apply And.intro)<;>first|assumption|omega)|((repeat' split)<;>omega)))|((first|with_reducible (first|((refine bB TT ?_);intro K hK)|((refine aW TT ?_);intro K hK)|((refine b7 TT [] MX (by kernel_rfl) (by kernel_rfl) ?_);intro K hK)|((refine aV TT [] MX (by kernel_rfl) (by kernel_rfl) ?_);intro K hK))|(with_reducible (first|refine aR TT E (fun hb=>?_) (fun hb=>?_)|refine aQ TT E (fun hb=>?_) (fun hb=>?_)|refine aO TT _ _ (fun hb=>?_) (fun hb=>?_)|refine aP TT _ _ (fun hb=>?_) (fun hb=>?_))<;>try simp only [hb])|((first|refine aN TT E (cA _) rfl rfl ?_|refine aM TT _ _ (cA _) rfl rfl ?_);intro m hm;try dsimp only at hm)|((first|refine aN TT E (bO ) rfl rfl ?_|refine aM TT _ _ (bO ) rfl rfl ?_);intro m hm;try dsimp only at hm)|((first|refine aN TT E (bR _ _ _) rfl rfl ?_|refine aM TT _ _ (bR _ _ _) rfl rfl ?_);intro m hm;try dsimp only at hm)|((first|refine aN TT E (bP _) rfl rfl ?_|refine aM TT _ _ (bP _) rfl rfl ?_);intro m hm;try dsimp only at hm)|((first|refine aN TT E (c7 _ _ _) rfl rfl ?_|refine aM TT _ _ (c7 _ _ _) rfl rfl ?_);intro m hm;try dsimp only at hm))<;>simp only [go_sem,↓reduceIte,aG,aH,a7,aA,aC,aD,aB,aE,a8,reduceCtorEq,aF,aI,aJ,aK,aL,hA.d,hA.w,hA.lt])))
        refine ⟨(),trivial,(by unfold ASubW;simp only [go_sem,↓reduceIte,a7,aA,aB,a8,reduceCtorEq,hk];try simp)⟩
      · rintro j y rest2 s2 nt2 hB _
        have hup:=q3 k j
        cases hc : isInB w k j
        · (repeat' (first|with_reducible (first|refine bC ?_|refine b6 ?_|refine b9 ?_|refine bA ?_|refine bD ?_|refine aT ?_|refine b8 ?_|refine aY ?_|refine aS ?_|refine b5 ?_|refine aU ?_|refine b4 rfl ?_|(refine hK _ ?_;clear K hK)|refine aZ rfl ?_|refine aX rfl ?_|intro hfact)|(with_reducible refine And.intro ?_ ?_;focus (first|assumption|omega|(simp;done)|((repeat' apply And.intro)<;>first|assumption|omega)|((repeat' split)<;>omega)))|((first|with_reducible (first|((refine bB TT ?_);intro K hK)|((refine aW TT ?_);intro K hK)|((refine b7 TT [] MX (by kernel_rfl) (by kernel_rfl) ?_);intro K hK)|((refine aV TT [] MX (by kernel_rfl) (by kernel_rfl) ?_);intro K hK))|(with_reducible (first|refine aR TT E (fun hb=>?_) (fun hb=>?_)|refine aQ TT E (fun hb=>?_) (fun hb=>?_)|refine aO TT _ _ (fun hb=>?_) (fun hb=>?_)|refine aP TT _ _ (fun hb=>?_) (fun hb=>?_))<;>try simp only [hb])|((first|refine aN TT E (cA _) rfl rfl ?_|refine aM TT _ _ (cA _) rfl rfl ?_);intro m hm;try dsimp only at hm)|((first|refine aN TT E (bO ) rfl rfl ?_|refine aM TT _ _ (bO ) rfl rfl ?_);intro m hm;try dsimp only at hm)|((first|refine aN TT E (bR _ _ _) rfl rfl ?_|refine aM TT _ _ (bR _ _ _) rfl rfl ?_);intro m hm;try dsimp only at hm)|((first|refine aN TT E (bP _) rfl rfl ?_|refine aM TT _ _ (bP _) rfl rfl ?_);intro m hm;try dsimp only at hm)|((first|refine aN TT E (c7 _ _ _) rfl rfl ?_|refine aM TT _ _ (c7 _ _ _) rfl rfl ?_);intro m hm;try dsimp only at hm))<;>simp only [go_sem,↓reduceIte,aG,aH,a7,aA,aC,aD,aB,aE,a8,reduceCtorEq,aF,aI,aJ,aK,aL,hB.d,hB.w,hB.lt,hc])))
          refine ⟨(),trivial,(by unfold ASubW;simp only [go_sem,↓reduceIte,a7,aA,aB,a8,reduceCtorEq,hk];try simp)⟩
        · have hc2:=hup hc
          (repeat' (first|with_reducible (first|refine bC ?_|refine b6 ?_|refine b9 ?_|refine bA ?_|refine bD ?_|refine aT ?_|refine b8 ?_|refine aY ?_|refine aS ?_|refine b5 ?_|refine aU ?_|refine b4 rfl ?_|(refine hK _ ?_;clear K hK)|refine aZ rfl ?_|refine aX rfl ?_|intro hfact)|(with_reducible refine And.intro ?_ ?_;focus (first|assumption|omega|(simp;done)|((repeat' apply And.intro)<;>first|assumption|omega)|((repeat' split)<;>omega)))|((first|with_reducible (first|((refine bB TT ?_);intro K hK)|((refine aW TT ?_);intro K hK)|((refine b7 TT [] MX (by kernel_rfl) (by kernel_rfl) ?_);intro K hK)|((refine aV TT [] MX (by kernel_rfl) (by kernel_rfl) ?_);intro K hK))|(with_reducible (first|refine aR TT E (fun hb=>?_) (fun hb=>?_)|refine aQ TT E (fun hb=>?_) (fun hb=>?_)|refine aO TT _ _ (fun hb=>?_) (fun hb=>?_)|refine aP TT _ _ (fun hb=>?_) (fun hb=>?_))<;>try simp only [hb])|((first|refine aN TT E (cA _) rfl rfl ?_|refine aM TT _ _ (cA _) rfl rfl ?_);intro m hm;try dsimp only at hm)|((first|refine aN TT E (bO ) rfl rfl ?_|refine aM TT _ _ (bO ) rfl rfl ?_);intro m hm;try dsimp only at hm)|((first|refine aN TT E (bR _ _ _) rfl rfl ?_|refine aM TT _ _ (bR _ _ _) rfl rfl ?_);intro m hm;try dsimp only at hm)|((first|refine aN TT E (bP _) rfl rfl ?_|refine aM TT _ _ (bP _) rfl rfl ?_);intro m hm;try dsimp only at hm)|((first|refine aN TT E (c7 _ _ _) rfl rfl ?_|refine aM TT _ _ (c7 _ _ _) rfl rfl ?_);intro m hm;try dsimp only at hm))<;>simp only [go_sem,↓reduceIte,aG,aH,a7,aA,aC,aD,aB,aE,a8,reduceCtorEq,aF,aI,aJ,aK,aL,hB.d,hB.w,hB.lt,hc,hc2])))
          refine ⟨(),trivial,(by unfold ASubW;simp only [go_sem,↓reduceIte,a7,aA,aB,a8,reduceCtorEq,hk];try simp)⟩
theorem law_leave (l : List Int) (hl : ∀ b ∈ l,0 ≤ b ∧ b < 256) : Gives Try.prog 3 [.d (.sl 1 (encB l) .no)] (B true):=by
  refine bE TT Try.call3 Try.func3 rfl (by simp [Try.ntmps3]) (by kernel_rfl) fun E hk=>?_
  (repeat' (first|with_reducible (first|refine bC ?_|refine b6 ?_|refine b9 ?_|refine bA ?_|refine bD ?_|refine aT ?_|refine b8 ?_|refine aY ?_|refine aS ?_|refine b5 ?_|refine aU ?_|refine b4 rfl ?_|(refine hK _ ?_;clear K hK)|refine aZ rfl ?_|refine aX rfl ?_|intro hfact)|(with_reducible refine And.intro ?_ ?_;focus (first|assumption|omega|(simp;done)|((repeat' apply And.intro)<;>first|assumption|omega)|((repeat' split)<;>omega)))|((first|with_reducible (first|((refine bB TT ?_);intro K hK)|((refine aW TT ?_);intro K hK)|((refine b7 TT [] MX (by kernel_rfl) (by kernel_rfl) ?_);intro K hK)|((refine aV TT [] MX (by kernel_rfl) (by kernel_rfl) ?_);intro K hK))|(with_reducible (first|refine aR TT E (fun hb=>?_) (fun hb=>?_)|refine aQ TT E (fun hb=>?_) (fun hb=>?_)|refine aO TT _ _ (fun hb=>?_) (fun hb=>?_)|refine aP TT _ _ (fun hb=>?_) (fun hb=>?_))<;>try simp only [hb])|((first|refine aN TT E (bY _ _ _) rfl rfl ?_|refine aM TT _ _ (bY _ _ _) rfl rfl ?_);intro m hm;try dsimp only at hm)|((first|refine aN TT E (cA _) rfl rfl ?_|refine aM TT _ _ (cA _) rfl rfl ?_);intro m hm;try dsimp only at hm)|((first|refine aN TT E (bO ) rfl rfl ?_|refine aM TT _ _ (bO ) rfl rfl ?_);intro m hm;try dsimp only at hm)|((first|refine aN TT E (bR _ _ _) rfl rfl ?_|refine aM TT _ _ (bR _ _ _) rfl rfl ?_);intro m hm;try dsimp only at hm)|((first|refine aN TT E (bP _) rfl rfl ?_|refine aM TT _ _ (bP _) rfl rfl ?_);intro m hm;try dsimp only at hm))<;>simp only [go_sem,↓reduceIte,aG,aH,a7,aA,aC,aD,aB,aE,a8,reduceCtorEq,aF,aI,aJ,aK,aL])))
  refine bW rfl (fun hb=>?_) (fun hb=>?_)
  · (repeat' (first|with_reducible (first|refine bC ?_|refine b6 ?_|refine b9 ?_|refine bA ?_|refine bD ?_|refine aT ?_|refine b8 ?_|refine aY ?_|refine aS ?_|refine b5 ?_|refine aU ?_|refine b4 rfl ?_|(refine hK _ ?_;clear K hK)|refine aZ rfl ?_|refine aX rfl ?_|intro hfact)|(with_reducible refine And.intro ?_ ?_;focus (first|assumption|omega|(simp;done)|((repeat' apply And.intro)<;>first|assumption|omega)|((repeat' split)<;>omega)))|((first|with_reducible (first|((refine bB TT ?_);intro K hK)|((refine aW TT ?_);intro K hK)|((refine b7 TT [] MX (by kernel_rfl) (by kernel_rfl) ?_);intro K hK)|((refine aV TT [] MX (by kernel_rfl) (by kernel_rfl) ?_);intro K hK))|(with_reducible (first|refine aR TT E (fun hb=>?_) (fun hb=>?_)|refine aQ TT E (fun hb=>?_) (fun hb=>?_)|refine aO TT _ _ (fun hb=>?_) (fun hb=>?_)|refine aP TT _ _ (fun hb=>?_) (fun hb=>?_))<;>try simp only [hb])|((first|refine aN TT E (bY _ _ _) rfl rfl ?_|refine aM TT _ _ (bY _ _ _) rfl rfl ?_);intro m hm;try dsimp only at hm)|((first|refine aN TT E (cA _) rfl rfl ?_|refine aM TT _ _ (cA _) rfl rfl ?_);intro m hm;try dsimp only at hm)|((first|refine aN TT E (bO ) rfl rfl ?_|refine aM TT _ _ (bO ) rfl rfl ?_);intro m hm;try dsimp only at hm)|((first|refine aN TT E (bR _ _ _) rfl rfl ?_|refine aM TT _ _ (bR _ _ _) rfl rfl ?_);intro m hm;try dsimp only at hm)|((first|refine aN TT E (bP _) rfl rfl ?_|refine aM TT _ _ (bP _) rfl rfl ?_);intro m hm;try dsimp only at hm))<;>simp only [go_sem,↓reduceIte,aG,aH,a7,aA,aC,aD,aB,aE,a8,reduceCtorEq,aF,aI,aJ,aK,aL])))
    refine bF TT (by simp only [go_sem,↓reduceIte,a7,aA,aB,a8,reduceCtorEq,Try.results3];rfl) rfl ?_;rfl
  (repeat' (first|with_reducible (first|refine bC ?_|refine b6 ?_|refine b9 ?_|refine bA ?_|refine bD ?_|refine aT ?_|refine b8 ?_|refine aY ?_|refine aS ?_|refine b5 ?_|refine aU ?_|refine b4 rfl ?_|(refine hK _ ?_;clear K hK)|refine aZ rfl ?_|refine aX rfl ?_|intro hfact)|(with_reducible refine And.intro ?_ ?_;focus (first|assumption|omega|(simp;done)|((repeat' apply And.intro)<;>first|assumption|omega)|((repeat' split)<;>omega)))|((first|with_reducible (first|((refine bB TT ?_);intro K hK)|((refine aW TT ?_);intro K hK)|((refine b7 TT [] MX (by kernel_rfl) (by kernel_rfl) ?_);intro K hK)|((refine aV TT [] MX (by kernel_rfl) (by kernel_rfl) ?_);intro K hK))|(with_reducible (first|refine aR TT E (fun hb=>?_) (fun hb=>?_)|refine aQ TT E (fun hb=>?_) (fun hb=>?_)|refine aO TT _ _ (fun hb=>?_) (fun hb=>?_)|refine aP TT _ _ (fun hb=>?_) (fun hb=>?_))<;>try simp only [hb])|(refine dW TT E (dLeave_ok _ (by assumption)) rfl ?_;rintro r m ⟨w,t,g,rfl⟩ hm))<;>simp only [go_sem,↓reduceIte,aG,aH,a7,aA,aC,aD,aB,aE,a8,reduceCtorEq,aF,aI,aJ,aK,aL])))
  have hi:=leaveE w t g
  have hsp:=bY w t g
  cases hj : leaveB w t g with
  | none =>
    rw [hj] at hi hsp
    simp only [joinA] at hi hsp
    (repeat' (first|with_reducible (first|refine bC ?_|refine b6 ?_|refine b9 ?_|refine bA ?_|refine bD ?_|refine aT ?_|refine b8 ?_|refine aY ?_|refine aS ?_|refine b5 ?_|refine aU ?_|refine b4 rfl ?_|(refine hK _ ?_;clear K hK)|refine aZ rfl ?_|refine aX rfl ?_|intro hfact)|(with_reducible refine And.intro ?_ ?_;focus (first|assumption|omega|(simp;done)|((repeat' apply And.intro)<;>first|assumption|omega)|((repeat' split)<;>omega)))|((first|with_reducible (first|((refine bB TT ?_);intro K hK)|((refine aW TT ?_);intro K hK)|((refine b7 TT [] MX (by kernel_rfl) (by kernel_rfl) ?_);intro K hK)|((refine aV TT [] MX (by kernel_rfl) (by kernel_rfl) ?_);intro K hK))|(with_reducible (first|refine aR TT E (fun hb=>?_) (fun hb=>?_)|refine aQ TT E (fun hb=>?_) (fun hb=>?_)|refine aO TT _ _ (fun hb=>?_) (fun hb=>?_)|refine aP TT _ _ (fun hb=>?_) (fun hb=>?_))<;>try simp only [hb])|((first|refine aN TT E (hi) rfl rfl ?_|refine aM TT _ _ (hi) rfl rfl ?_);intro m hm;try dsimp only at hm)|((first|refine aN TT E (hsp) rfl rfl ?_|refine aM TT _ _ (hsp) rfl rfl ?_);intro m hm;try dsimp only at hm)|((first|refine aN TT E (sw_nil) rfl rfl ?_|refine aM TT _ _ (sw_nil) rfl rfl ?_);intro m hm;try dsimp only at hm)|((first|refine aN TT E (bY _ _ _) rfl rfl ?_|refine aM TT _ _ (bY _ _ _) rfl rfl ?_);intro m hm;try dsimp only at hm)|((first|refine aN TT E (cA _) rfl rfl ?_|refine aM TT _ _ (cA _) rfl rfl ?_);intro m hm;try dsimp only at hm)|((first|refine aN TT E (bO ) rfl rfl ?_|refine aM TT _ _ (bO ) rfl rfl ?_);intro m hm;try dsimp only at hm)|((first|refine aN TT E (bR _ _ _) rfl rfl ?_|refine aM TT _ _ (bR _ _ _) rfl rfl ?_);intro m hm;try dsimp only at hm)|((first|refine aN TT E (bP _) rfl rfl ?_|refine aM TT _ _ (bP _) rfl rfl ?_);intro m hm;try dsimp only at hm))<;>simp only [go_sem,↓reduceIte,aG,aH,a7,aA,aC,aD,aB,aE,a8,reduceCtorEq,aF,aI,aJ,aK,aL,bne_self_eq_false,cast0U])))
    refine bF TT (by simp only [go_sem,↓reduceIte,a7,aA,aB,a8,reduceCtorEq,Try.results3];rfl) rfl ?_;rfl
  | some w' =>
    rw [hj] at hi hsp
    simp only [joinA] at hi hsp
    obtain ⟨q1,q2,q3,q5⟩:=leave_law hj
    have hlv:=joinE w' t g
    rw [q5] at hlv
    simp only [joinA] at hlv
    (repeat' (first|with_reducible (first|refine bC ?_|refine b6 ?_|refine b9 ?_|refine bA ?_|refine bD ?_|refine aT ?_|refine b8 ?_|refine aY ?_|refine aS ?_|refine b5 ?_|refine aU ?_|refine b4 rfl ?_|(refine hK _ ?_;clear K hK)|refine aZ rfl ?_|refine aX rfl ?_|intro hfact)|(with_reducible refine And.intro ?_ ?_;focus (first|assumption|omega|(simp;done)|((repeat' apply And.intro)<;>first|assumption|omega)|((repeat' split)<;>omega)))|((first|with_reducible (first|((refine bB TT ?_);intro K hK)|((refine aW TT ?_);intro K hK)|((refine b7 TT [] MX (by kernel_rfl) (by kernel_rfl) ?_);intro K hK)|((refine aV TT [] MX (by kernel_rfl) (by kernel_rfl) ?_);intro K hK))|(with_reducible (first|refine aR TT E (fun hb=>?_) (fun hb=>?_)|refine aQ TT E (fun hb=>?_) (fun hb=>?_)|refine aO TT _ _ (fun hb=>?_) (fun hb=>?_)|refine aP TT _ _ (fun hb=>?_) (fun hb=>?_))<;>try simp only [hb])|((first|refine aN TT E (hi) rfl rfl ?_|refine aM TT _ _ (hi) rfl rfl ?_);intro m hm;try dsimp only at hm)|((first|refine aN TT E (hsp) rfl rfl ?_|refine aM TT _ _ (hsp) rfl rfl ?_);intro m hm;try dsimp only at hm)|((first|refine aN TT E (bY _ _ _) rfl rfl ?_|refine aM TT _ _ (bY _ _ _) rfl rfl ?_);intro m hm;try dsimp only at hm)|((first|refine aN TT E (cA _) rfl rfl ?_|refine aM TT _ _ (cA _) rfl rfl ?_);intro m hm;try dsimp only at hm)|((first|refine aN TT E (bO ) rfl rfl ?_|refine aM TT _ _ (bO ) rfl rfl ?_);intro m hm;try dsimp only at hm)|((first|refine aN TT E (bR _ _ _) rfl rfl ?_|refine aM TT _ _ (bR _ _ _) rfl rfl ?_);intro m hm;try dsimp only at hm)|((first|refine aN TT E (bP _) rfl rfl ?_|refine aM TT _ _ (bP _) rfl rfl ?_);intro m hm;try dsimp only at hm))<;>simp only [go_sem,↓reduceIte,aG,aH,a7,aA,aC,aD,aB,aE,a8,reduceCtorEq,aF,aI,aJ,aK,aL,bne_self_eq_false])))
    refine cE (w) (List.length (w)) 3 [] [3,4,5,6] (fun k s=>[(10,I k)]) (fun obs k s=>obs) (fun k s=>[]) (fun k rest s nt=>True) (()) (by first|rfl|(simp;done)|(simp;omega)) (by first|rfl|(simp only [go_sem,↓reduceIte,a7,aA,aB,a8,reduceCtorEq];done)|(simp only [go_sem,↓reduceIte,a7,aA,aB,a8,reduceCtorEq];simp;done)) (by simp only [go_sem,↓reduceIte,a7,aA,aB,a8,reduceCtorEq];rfl) (by first|rfl|(simp only [go_sem,↓reduceIte,a7,aA,aB,a8,reduceCtorEq];rfl)) (trivial) (by unfold ASubW;simp only [go_sem,↓reduceIte,a7,aA,aB,a8,reduceCtorEq,hk];try simp) ?_ ?_
    · rintro s nt hmax _
      (repeat' (first|with_reducible (first|refine bC ?_|refine b6 ?_|refine b9 ?_|refine bA ?_|refine bD ?_|refine aT ?_|refine b8 ?_|refine aY ?_|refine aS ?_|refine b5 ?_|refine aU ?_|refine b4 rfl ?_|(refine hK _ ?_;clear K hK)|refine aZ rfl ?_|refine aX rfl ?_|intro hfact)|(with_reducible refine And.intro ?_ ?_;focus (first|assumption|omega|(simp;done)|((repeat' apply And.intro)<;>first|assumption|omega)|((repeat' split)<;>omega)))|((first|with_reducible (first|((refine bB TT ?_);intro K hK)|((refine aW TT ?_);intro K hK)|((refine b7 TT [] MX (by kernel_rfl) (by kernel_rfl) ?_);intro K hK)|((refine aV TT [] MX (by kernel_rfl) (by kernel_rfl) ?_);intro K hK))|(with_reducible (first|refine aR TT E (fun hb=>?_) (fun hb=>?_)|refine aQ TT E (fun hb=>?_) (fun hb=>?_)|refine aO TT _ _ (fun hb=>?_) (fun hb=>?_)|refine aP TT _ _ (fun hb=>?_) (fun hb=>?_))<;>try simp only [hb])|((first|refine aN TT E (hlv) rfl rfl ?_|refine aM TT _ _ (hlv) rfl rfl ?_);intro m hm;try dsimp only at hm)|((first|refine aN TT E (bY _ _ _) rfl rfl ?_|refine aM TT _ _ (bY _ _ _) rfl rfl ?_);intro m hm;try dsimp only at hm)|((first|refine aN TT E (cA _) rfl rfl ?_|refine aM TT _ _ (cA _) rfl rfl ?_);intro m hm;try dsimp only at hm)|((first|refine aN TT E (bO ) rfl rfl ?_|refine aM TT _ _ (bO ) rfl rfl ?_);intro m hm;try dsimp only at hm)|((first|refine aN TT E (bR _ _ _) rfl rfl ?_|refine aM TT _ _ (bR _ _ _) rfl rfl ?_);intro m hm;try dsimp only at hm)|((first|refine aN TT E (bP _) rfl rfl ?_|refine aM TT _ _ (bP _) rfl rfl ?_);intro m hm;try dsimp only at hm))<;>simp only [go_sem,↓reduceIte,aG,aH,a7,aA,aC,aD,aB,aE,a8,reduceCtorEq,aF,aI,aJ,aK,aL,q1])))
      refine bF TT (by simp only [go_sem,↓reduceIte,a7,aA,aB,a8,reduceCtorEq,Try.results3];rfl) rfl ?_;rfl
    · rintro k x rest s nt hA _
      (repeat' (first|with_reducible (first|refine bC ?_|refine b6 ?_|refine b9 ?_|refine bA ?_|refine bD ?_|refine aT ?_|refine b8 ?_|refine aY ?_|refine aS ?_|refine b5 ?_|refine aU ?_|refine b4 rfl ?_|(refine hK _ ?_;clear K hK)|refine aZ rfl ?_|refine aX rfl ?_|intro hfact)|(with_reducible refine And.intro ?_ ?_;focus (first|assumption|omega|(simp;done)|((repeat' apply And.intro)<;>first|assumption|omega)|((repeat' split)<;>omega)))|((first|with_reducible (first|((refine bB TT ?_);intro K hK)|((refine aW TT ?_);intro K hK)|((refine b7 TT [] MX (by kernel_rfl) (by kernel_rfl) ?_);intro K hK)|((refine aV TT [] MX (by kernel_rfl) (by kernel_rfl) ?_);intro K hK))|(with_reducible (first|refine aR TT E (fun hb=>?_) (fun hb=>?_)|refine aQ TT E (fun hb=>?_) (fun hb=>?_)|refine aO TT _ _ (fun hb=>?_) (fun hb=>?_)|refine aP TT _ _ (fun hb=>?_) (fun hb=>?_))<;>try simp only [hb])|((first|refine aN TT E (bY _ _ _) rfl rfl ?_|refine aM TT _ _ (bY _ _ _) rfl rfl ?_);intro m hm;try dsimp only at hm)|((first|refine aN TT E (cA _) rfl rfl ?_|refine aM TT _ _ (cA _) rfl rfl ?_);intro m hm;try dsimp only at hm)|((first|refine aN TT E (bO ) rfl rfl ?_|refine aM TT _ _ (bO ) rfl rfl ?_);intro m hm;try dsimp only at hm)|((first|refine aN TT E (bR _ _ _) rfl rfl ?_|refine aM TT _ _ (bR _ _ _) rfl rfl ?_);intro m hm;try dsimp only at hm)|((first|refine aN TT E (bP _) rfl rfl ?_|refine aM TT _ _ (bP _) rfl rfl ?_);intro m hm;try dsimp only at hm))<;>simp only [go_sem,↓reduceIte,aG,aH,a7,aA,aC,aD,aB,aE,a8,reduceCtorEq,aF,aI,aJ,aK,aL,hA.d,hA.w,hA.lt])))
      refine cE (w) (List.length (w)) 3 [] [3,4,5,6,10] (fun j s2=>[(11,I j)]) (fun obs j s2=>obs) (fun j s2=>[]) (fun j rest s2 nt=>True) (()) (by first|rfl|(simp;done)|(simp;omega)) (by first|rfl|(simp only [go_sem,↓reduceIte,a7,aA,aB,a8,reduceCtorEq];done)|(simp only [go_sem,↓reduceIte,a7,aA,aB,a8,reduceCtorEq];simp;done)) (by simp only [go_sem,↓reduceIte,a7,aA,aB,a8,reduceCtorEq];rfl) (by first|rfl|(simp only [go_sem,↓reduceIte,a7,aA,aB,a8,reduceCtorEq];rfl)) (trivial) (by unfold ASubW;simp only [go_sem,↓reduceIte,a7,aA,aB,a8,reduceCtorEq,hk];try simp) ?_ ?_
      · rintro s2 nt2 hmax2 _
        (repeat' (first|with_reducible (first|refine bC ?_|refine b6 ?_|refine b9 ?_|refine bA ?_|refine bD ?_|refine aT ?_|refine b8 ?_|refine aY ?_|refine aS ?_|refine b5 ?_|refine aU ?_|refine b4 rfl ?_|(refine hK _ ?_;clear K hK)|refine aZ rfl ?_|refine aX rfl ?_|intro hfact)|(with_reducible refine And.intro ?_ ?_;focus (first|assumption|omega|(simp;done)|((repeat' apply And.intro)<;>first|assumption|omega)|((repeat' split)<;>omega)))|((first|with_reducible (first|((refine bB TT ?_);intro K hK)|((refine aW TT ?_);intro K hK)|((refine b7 TT [] MX (by kernel_rfl) (by kernel_rfl) ?_);intro K hK)|((refine aV TT [] MX (by kernel_rfl) (by kernel_rfl) ?_);intro K hK))|(with_reducible (first|refine aR TT E (fun hb=>?_) (fun hb=>?_)|refine aQ TT E (fun hb=>?_) (fun hb=>?_)|refine aO TT _ _ (fun hb=>?_) (fun hb=>?_)|refine aP TT _ _ (fun hb=>?_) (fun hb=>?_))<;>try simp only [hb])|((first|refine aN TT E (bY _ _ _) rfl rfl ?_|refine aM TT _ _ (bY _ _ _) rfl rfl ?_);intro m hm;try dsimp only at hm)|((first|refine aN TT E (cA _) rfl rfl ?_|refine aM TT _ _ (cA _) rfl rfl ?_);intro m hm;try dsimp only at hm)|((first|refine aN TT E (bO ) rfl rfl ?_|refine aM TT _ _ (bO ) rfl rfl ?_);intro m hm;try dsimp only at hm)|((first|refine aN TT E (bR _ _ _) rfl rfl ?_|refine aM TT _ _ (bR _ _ _) rfl rfl ?_);intro m hm;try dsimp only at hm)|((first|refine aN TT E (bP _) rfl rfl ?_|refine aM TT _ _ (bP _) rfl rfl ?_);intro m hm;try dsimp only at hm))<;>simp only [go_sem,↓reduceIte,aG,aH,a7,aA,aC,aD,aB,aE,a8,reduceCtorEq,aF,aI,aJ,aK,aL,hA.d,hA.w,hA.lt])))
        refine ⟨(),trivial,(by unfold ASubW;simp only [go_sem,↓reduceIte,a7,aA,aB,a8,reduceCtorEq,hk];try simp)⟩
      · rintro j y rest2 s2 nt2 hB _
        have hup:=q3 k j
        cases hc : isInB w' k j
        · (repeat' (first|with_reducible (first|refine bC ?_|refine b6 ?_|refine b9 ?_|refine bA ?_|refine bD ?_|refine aT ?_|refine b8 ?_|refine aY ?_|refine aS ?_|refine b5 ?_|refine aU ?_|refine b4 rfl ?_|(refine hK _ ?_;clear K hK)|refine aZ rfl ?_|refine aX rfl ?_|intro hfact)|(with_reducible refine And.intro ?_ ?_;focus (first|assumption|omega|(simp;done)|((repeat' apply And.intro)<;>first|assumption|omega)|((repeat' split)<;>omega)))|((first|with_reducible (first|((refine bB TT ?_);intro K hK)|((refine aW TT ?_);intro K hK)|((refine b7 TT [] MX (by kernel_rfl) (by kernel_rfl) ?_);intro K hK)|((refine aV TT [] MX (by kernel_rfl) (by kernel_rfl) ?_);intro K hK))|(with_reducible (first|refine aR TT E (fun hb=>?_) (fun hb=>?_)|refine aQ TT E (fun hb=>?_) (fun hb=>?_)|refine aO TT _ _ (fun hb=>?_) (fun hb=>?_)|refine aP TT _ _ (fun hb=>?_) (fun hb=>?_))<;>try simp only [hb])|((first|refine aN TT E (bY _ _ _) rfl rfl ?_|refine aM TT _ _ (bY _ _ _) rfl rfl ?_);intro m hm;try dsimp only at hm)|((first|refine aN TT E (cA _) rfl rfl ?_|refine aM TT _ _ (cA _) rfl rfl ?_);intro m hm;try dsimp only at hm)|((first|refine aN TT E (bO ) rfl rfl ?_|refine aM TT _ _ (bO ) rfl rfl ?_);intro m hm;try dsimp only at hm)|((first|refine aN TT E (bR _ _ _) rfl rfl ?_|refine aM TT _ _ (bR _ _ _) rfl rfl ?_);intro m hm;try dsimp only at hm)|((first|refine aN TT E (bP _) rfl rfl ?_|refine aM TT _ _ (bP _) rfl rfl ?_);intro m hm;try dsimp only at hm))<;>simp only [go_sem,↓reduceIte,aG,aH,a7,aA,aC,aD,aB,aE,a8,reduceCtorEq,aF,aI,aJ,aK,aL,hB.d,hB.w,hB.lt,hc])))
          refine ⟨(),trivial,(by unfold ASubW;simp only [go_sem,↓reduceIte,a7,aA,aB,a8,reduceCtorEq,hk];try simp)⟩
        · have hc2:=hup hc
          (repeat' (first|with_reducible (first|refine bC ?_|refine b6 ?_|refine b9 ?_|refine bA ?_|refine bD ?_|refine aT ?_|refine b8 ?_|refine aY ?_|refine aS ?_|refine b5 ?_|refine aU ?_|refine b4 rfl ?_|(refine hK _ ?_;clear K hK)|refine aZ rfl ?_|refine aX rfl ?_|intro hfact)|(with_reducible refine And.intro ?_ ?_;focus (first|assumption|omega|(simp;done)|((repeat' apply And.intro)<;>first|assumption|omega)|((repeat' split)<;>omega)))|((first|with_reducible (first|((refine bB TT ?_);intro K hK)|((refine aW TT ?_);intro K hK)|((refine b7 TT [] MX (by kernel_rfl) (by kernel_rfl) ?_);intro K hK)|((refine aV TT [] MX (by kernel_rfl) (by kernel_rfl) ?_);intro K hK))|(with_reducible (first|refine aR TT E (fun hb=>?_) (fun hb=>?_)|refine aQ TT E (fun hb=>?_) (fun hb=>?_)|refine aO TT _ _ (fun hb=>?_) (fun hb=>?_)|refine aP TT _ _ (fun hb=>?_) (fun hb=>?_))<;>try simp only [hb])|((first|refine aN TT E (bY _ _ _) rfl rfl ?_|refine aM TT _ _ (bY _ _ _) rfl rfl ?_);intro m hm;try dsimp only at hm)|((first|refine aN TT E (cA _) rfl rfl ?_|refine aM TT _ _ (cA _) rfl rfl ?_);intro m hm;try dsimp only at hm)|((first|refine aN TT E (bO ) rfl rfl ?_|refine aM TT _ _ (bO ) rfl rfl ?_);intro m hm;try dsimp only at hm)|((first|refine aN TT E (bR _ _ _) rfl rfl ?_|refine aM TT _ _ (bR _ _ _) rfl rfl ?_);intro m hm;try dsimp only at hm)|((first|refine aN TT E (bP _) rfl rfl ?_|refine aM TT _ _ (bP _) rfl rfl ?_);intro m hm;try dsimp only at hm))<;>simp only [go_sem,↓reduceIte,aG,aH,a7,aA,aC,aD,aB,aE,a8,reduceCtorEq,aF,aI,aJ,aK,aL,hB.d,hB.w,hB.lt,hc,hc2])))
          refine ⟨(),trivial,(by unfold ASubW;simp only [go_sem,↓reduceIte,a7,aA,aB,a8,reduceCtorEq,hk];try simp)⟩
end Go.Proofs.Ytdfbaedkcfhdfaa
