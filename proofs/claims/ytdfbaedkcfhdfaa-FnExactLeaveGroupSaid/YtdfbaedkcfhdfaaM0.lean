import Derived.Test.YtdfbaedkcfhdfaaF0
import Derived.Test.YtdfbaedkcfhdfaaCoreE
open Int renaming reduceToNat → aF,reduceBEq → aG,reduceBNe → aH,reduceNeg → aI,reduceEq → aJ,reduceLE → aK,reduceLT → aL
open Nat renaming reduceEqDiff → a7,reduceLeDiff → a8,reduceAdd → aA,reduceLT → aB,reduceMul → aC,reduceSub → aD,reduceBEq → aE
namespace Go.Proofs.Ytdfbaedkcfhdfaa
open Go Go.AL
set_option linter.unusedSimpArgs false
set_option linter.unusedVariables false
def dstep (k : Int) : UInt8:=UInt8.ofNat (IntKind.u8.wrap (IntKind.i64.wrap (48 + k.tmod 10))).toNat
def dig (k : Int) (out : List UInt8) : List UInt8:=if h : 0 < k then dig (k.tdiv 10) (dstep k :: out) else out
termination_by k.toNat
decreasing_by
  have : k.tdiv 10 < k:=by rw [Int.tdiv_eq_ediv_of_nonneg (by omega)];omega
  omega
def mtx (k : Int) : List UInt8:=if k ≤ 0 then [109,48] else 109 :: dig k []
theorem tdiv10 {k : Int} (h : 0 < k) : 0 ≤ k.tdiv 10 ∧ k.tdiv 10 < k:=by
  rw [Int.tdiv_eq_ediv_of_nonneg (by omega)];omega
theorem dig_len (m : Nat) : ∀ (k : Int) (out : List UInt8),k.toNat ≤ m → (dig k out).length ≤ out.length + k.toNat:=by
  induction m with
  | zero=>intro k out h;rw [dig];split<;>simp_all<;>omega
  | succ m ih =>
    intro k out h
    rw [dig]
    split
    · rename_i hk
      have:=tdiv10 hk
      have h2:=ih (k.tdiv 10) (dstep k :: out) (by omega)
      simp only [List.length_cons] at h2
      omega
    · omega
theorem mtx_len {k : Int} (h : k ≤ 1000000000000000) : (mtx k).length ≤ 9223372036854775807:=by
  unfold mtx
  split
  · simp
  · have:=dig_len k.toNat k [] (Nat.le_refl _)
    simp only [List.length_cons,List.length_nil] at *
    omega
theorem dG (k : Int) (Hk : k ≤ 1000000000000000) : Gives Try.prog 123 [I k] (S (mtx k)):=by
  refine bE TT Try.call123 Try.func123 rfl (by simp [Try.ntmps123]) (by kernel_rfl) fun E hk=>?_
  (repeat' (first|with_reducible (first|refine bC ?_|refine b7 ?_|refine bB ?_|refine bA ?_|refine bD ?_|refine aR ?_|refine b6 ?_|refine aX ?_|refine aO ?_|refine aY ?_|refine aU ?_|refine aZ rfl ?_|(refine hK _ ?_;clear K hK)|refine b4 rfl ?_|refine b5 rfl ?_|intro hfact)|(with_reducible refine And.intro ?_ ?_;focus (first|assumption|omega|(simp;done)|((repeat' apply And.intro)<;>first|assumption|omega)|((repeat' split)<;>omega)))|((first|with_reducible (first|((refine b9 TT ?_);intro K hK)|((refine aW TT ?_);intro K hK)|((refine b8 TT [] MX (by kernel_rfl) (by kernel_rfl) ?_);intro K hK)|((refine aT TT [] MX (by kernel_rfl) (by kernel_rfl) ?_);intro K hK))|(with_reducible (first|refine aP TT E (fun hb=>?_) (fun hb=>?_)|refine aQ TT E (fun hb=>?_) (fun hb=>?_)|refine aM TT _ _ (fun hb=>?_) (fun hb=>?_)|refine aN TT _ _ (fun hb=>?_) (fun hb=>?_))<;>try simp only [hb]))<;>simp only [go_sem,↓reduceIte,aG,aH,a7,aA,aC,aD,aB,aE,a8,reduceCtorEq,aF,aI,aJ,aK,aL])|refine bQ rfl (fun hb=>?_) (fun hb=>?_)|refine bP rfl (fun hb=>?_) (fun hb=>?_)|refine bH rfl (fun hb=>?_) (fun hb=>?_)))
  · refine bF TT (by simp only [go_sem,↓reduceIte,a7,aA,aB,a8,reduceCtorEq,Try.results123];rfl) rfl ?_;simp [resV,mtx,hb]
  refine awp_lp [] (fun (s : Int × List UInt8)=>[(0,I s.1),(3,S s.2)]) (fun obs (s : Int × List UInt8)=>obs) (fun (s : Int × List UInt8)=>[]) (fun (s : Int × List UInt8) nt=>0 ≤ s.1 ∧ s.1 ≤ k ∧ (s.2.length : Int) + s.1 ≤ 1000000000000000 ∧ dig s.1 s.2 = dig k []) (fun (s : Int × List UInt8)=>s.1.toNat) ((k,[])) (by simp only [go_sem,↓reduceIte,a7,aA,aB,a8,reduceCtorEq];rfl) (by first|rfl|(simp only [go_sem,↓reduceIte,a7,aA,aB,a8,reduceCtorEq];rfl)) (⟨by omega,by simp,by simpa using Hk,rfl⟩) (by unfold ASubW;simp only [go_sem,↓reduceIte,a7,aA,aB,a8,reduceCtorEq,hk];try simp) ?_
  rintro ⟨q,out⟩ nt ⟨h1,h2,h3,h4⟩
  dsimp only at *
  by_cases hq : 0 < q
  · have hd:=tdiv10 hq
    have hw : IntKind.i64.wrap (q.tdiv 10) = q.tdiv 10:=cB (by omega)
    have hc : decide (0 < q) = true:=by simpa using hq
    have hds : dig q out = dig (q.tdiv 10) (dstep q :: out):=by rw [dig,dif_pos hq]
    (repeat' (first|with_reducible (first|refine bC ?_|refine b7 ?_|refine bB ?_|refine bA ?_|refine bD ?_|refine aR ?_|refine b6 ?_|refine aX ?_|refine aO ?_|refine aY ?_|refine aU ?_|refine aZ rfl ?_|(refine hK _ ?_;clear K hK)|refine b4 rfl ?_|refine b5 rfl ?_|intro hfact)|(with_reducible refine And.intro ?_ ?_;focus (first|assumption|omega|(simp;done)|((repeat' apply And.intro)<;>first|assumption|omega)|((repeat' split)<;>omega)))|((first|with_reducible (first|((refine b9 TT ?_);intro K hK)|((refine aW TT ?_);intro K hK)|((refine b8 TT [] MX (by kernel_rfl) (by kernel_rfl) ?_);intro K hK)|((refine aT TT [] MX (by kernel_rfl) (by kernel_rfl) ?_);intro K hK))|(with_reducible (first|refine aP TT E (fun hb=>?_) (fun hb=>?_)|refine aQ TT E (fun hb=>?_) (fun hb=>?_)|refine aM TT _ _ (fun hb=>?_) (fun hb=>?_)|refine aN TT _ _ (fun hb=>?_) (fun hb=>?_))<;>try simp only [hb]))<;>simp only [go_sem,↓reduceIte,aG,aH,a7,aA,aC,aD,aB,aE,a8,reduceCtorEq,aF,aI,aJ,aK,aL,hw,hc])|refine bQ rfl (fun hb=>?_) (fun hb=>?_)|refine bP rfl (fun hb=>?_) (fun hb=>?_)|refine bH rfl (fun hb=>?_) (fun hb=>?_)))
    refine ⟨(q.tdiv 10,dstep q :: out),⟨by omega,by omega,by simp;omega,by rw [← h4,hds]⟩,by dsimp only;omega,(by unfold ASubW;simp only [go_sem,↓reduceIte,a7,aA,aB,a8,reduceCtorEq,hk,dstep];try simp)⟩
  · have hc : decide (0 < q) = false:=by simpa using hq
    have hds : dig q out = out:=by rw [dig,dif_neg hq]
    (repeat' (first|with_reducible (first|refine bC ?_|refine b7 ?_|refine bB ?_|refine bA ?_|refine bD ?_|refine aR ?_|refine b6 ?_|refine aX ?_|refine aO ?_|refine aY ?_|refine aU ?_|refine aZ rfl ?_|(refine hK _ ?_;clear K hK)|refine b4 rfl ?_|refine b5 rfl ?_|intro hfact)|(with_reducible refine And.intro ?_ ?_;focus (first|assumption|omega|(simp;done)|((repeat' apply And.intro)<;>first|assumption|omega)|((repeat' split)<;>omega)))|((first|with_reducible (first|((refine b9 TT ?_);intro K hK)|((refine aW TT ?_);intro K hK)|((refine b8 TT [] MX (by kernel_rfl) (by kernel_rfl) ?_);intro K hK)|((refine aT TT [] MX (by kernel_rfl) (by kernel_rfl) ?_);intro K hK))|(with_reducible (first|refine aP TT E (fun hb=>?_) (fun hb=>?_)|refine aQ TT E (fun hb=>?_) (fun hb=>?_)|refine aM TT _ _ (fun hb=>?_) (fun hb=>?_)|refine aN TT _ _ (fun hb=>?_) (fun hb=>?_))<;>try simp only [hb]))<;>simp only [go_sem,↓reduceIte,aG,aH,a7,aA,aC,aD,aB,aE,a8,reduceCtorEq,aF,aI,aJ,aK,aL,hc])|refine bQ rfl (fun hb=>?_) (fun hb=>?_)|refine bP rfl (fun hb=>?_) (fun hb=>?_)|refine bH rfl (fun hb=>?_) (fun hb=>?_)))
    refine bF TT (by simp only [go_sem,↓reduceIte,a7,aA,aB,a8,reduceCtorEq,Try.results123];rfl) rfl ?_;simp only [resV];rw [mtx,if_neg hb,← h4,hds]
def fF (_ : Field) (k : Int) : Field:=⟨mtx k,k + 1,k + 1 + 1⟩
def cF (_ : Field) : Int:=3
def fS (_ : List UInt8) (k : Int) : List UInt8:=mtx k
def cS (_ : List UInt8) : Int:=1
def fI (_ : Int) (k : Int) : Int:=k
def cI (_ : Int) : Int:=1
set_option maxHeartbeats 4000000 in
set_option maxRecDepth 100000 in
theorem markF_ok (l : List Field) (k : Int) (h0 : 0 ≤ k) (h1 : k + cnL cF l ≤ 1000000000000000) : MarkF Try.prog 71 (LF l) (LF (mkL fF cF l k)) k (k + cnL cF l):=by
  refine gF (rt:=4) Try.call71 Try.func71 rfl rfl Try.ntmps71 (by decide) fun w0 v bs hT=>?_
  simp only [TreeA,TreeV] at hT
  obtain ⟨a,cap,rfl,hcap,hx⟩:=hT
  rw [List.length_map] at *
  rcases hx with ⟨hnil,rfl⟩|⟨b,vs,bs',rfl,rfl,hbn,hcell,hsz,hll⟩
  · obtain rfl : l = []:=by simpa using hnil
    (repeat' (first|with_reducible (first|(refine cL ?_;intro K hK)|(refine bY ?_;intro K hK)|(refine dW ?_)|(refine cK ?_)|(refine d5 ?_)|(refine dU ?_)|(refine d6 ?_)|(refine dY ?_)|(refine dR ?_)|(refine bV ?_)|(refine bR ?_)|(refine bK ?_)|(refine bT ?_)|(refine bL ?_)|(refine bS rfl ?_)|(refine c7 rfl ?_)|(refine c6 rfl ?_)|(refine hK _ _ ?_;clear K hK))|((first|(refine d4 rfl (by decide) ?_)|(refine c8 rfl (by decide) ?_)|(refine dS rfl rfl rfl (by decide) ?_)|(refine dT TT rfl rfl rfl (by decide) ?_)|(refine cG TT rfl rfl rfl rfl rfl (by omega) (by omega) (by decide) ?_)|(refine cH TT rfl rfl rfl rfl (by decide) (by decide) ?_))<;>(try simp only [DV.zv,Int.toNat_natCast,List.set_cons_zero,List.set_cons_succ]))))
    refine pw_sub (env':=[(0,.slice a 0 cap),(1,.int .i64 k),(5,.int .i64 (0 : Nat))]) (by simp [getP]) (fun w h=>h) ?_
    refine pw_loop 0 5 (fun i=>[(0,.slice a 0 cap),(1,.int .i64 k),(5,.int .i64 i)]) (fun _ w=>w = w0) (fun i=>rfl) ⟨rfl,rfl⟩ fun i hi=>?_
    obtain rfl : i = 0:=by omega
    (repeat' (first|with_reducible (first|(refine cL ?_;intro K hK)|(refine bY ?_;intro K hK)|(refine dW ?_)|(refine cK ?_)|(refine d5 ?_)|(refine dU ?_)|(refine d6 ?_)|(refine dY ?_)|(refine dR ?_)|(refine bV ?_)|(refine bR ?_)|(refine bK ?_)|(refine bT ?_)|(refine bL ?_)|(refine bS rfl ?_)|(refine c7 rfl ?_)|(refine c6 rfl ?_)|(refine hK _ _ ?_;clear K hK))|((first|(refine d4 rfl (by decide) ?_)|(refine c8 rfl (by decide) ?_)|(refine dS rfl rfl rfl (by decide) ?_)|(refine dT TT rfl rfl rfl (by decide) ?_)|(refine cG TT rfl rfl rfl rfl rfl (by omega) (by omega) (by decide) ?_)|(refine cH TT rfl rfl rfl rfl (by decide) (by decide) ?_))<;>(try simp only [DV.zv,Int.toNat_natCast,List.set_cons_zero,List.set_cons_succ,dJ]))))
    rintro a w ⟨h2,h3,h4,rfl⟩
    exact ⟨.inr rfl,by rw [h4 4 _ rfl];simp [cnL],h3,⟨_,cap,rfl,hcap,.inl ⟨rfl,rfl⟩⟩,FrameW.refl _ _⟩
  · have hM0 : MT w0 (b :: bs') b bs' (mixD encF fF cF l k 0) w0:=⟨vs,hcell,by rw [mixD_0];exact dI.1 hll,hbn,FrameW.refl _ _⟩
    (repeat' (first|with_reducible (first|(refine cL ?_;intro K hK)|(refine bY ?_;intro K hK)|(refine dW ?_)|(refine cK ?_)|(refine d5 ?_)|(refine dU ?_)|(refine d6 ?_)|(refine dY ?_)|(refine dR ?_)|(refine bV ?_)|(refine bR ?_)|(refine bK ?_)|(refine bT ?_)|(refine bL ?_)|(refine bS rfl ?_)|(refine c7 rfl ?_)|(refine c6 rfl ?_)|(refine hK _ _ ?_;clear K hK))|((first|(refine d4 rfl (by decide) ?_)|(refine c8 rfl (by decide) ?_)|(refine dS rfl rfl rfl (by decide) ?_)|(refine dT TT rfl rfl rfl (by decide) ?_)|(refine cG TT rfl rfl rfl rfl rfl (by omega) (by omega) (by decide) ?_)|(refine cH TT rfl rfl rfl rfl (by decide) (by decide) ?_))<;>(try simp only [DV.zv,Int.toNat_natCast,List.set_cons_zero,List.set_cons_succ]))))
    refine pw_sub (env':=[(0,.slice (some ⟨b,0,none⟩) l.length cap),(1,.int .i64 (k + cnL cF (l.take 0))),(5,.int .i64 (0 : Nat))]) (by simp [getP,cnL]) (M':=MT w0 (b :: bs') b bs' (mixD encF fF cF l k 0)) (fun w h=>h ▸ hM0) ?_
    refine pw_loop l.length 5 (fun i=>[(0,.slice (some ⟨b,0,none⟩) l.length cap),(1,.int .i64 (k + cnL cF (l.take i))),(5,.int .i64 i)]) (fun i=>MT w0 (b :: bs') b bs' (mixD encF fF cF l k i)) (fun i=>rfl) ⟨rfl,rfl⟩ fun i hi=>?_
    by_cases hlt : i < l.length
    · obtain ⟨x,rest,hdr⟩ : ∃ x rest,l.drop i = x :: rest:=⟨l[i],l.drop (i + 1),List.drop_eq_getElem_cons hlt⟩
      obtain ⟨pre,post,hp1,hp2,hp3,hp4⟩:=mixD_at encF fF cF (sz:=3) (fun _=>rfl) k hdr hi
      have hc0:=dH cF (fun _=>(show (0 : Int) ≤ 3 by decide)) (l.take i)
      have hc1:=cnL_split cF hdr
      have hc2:=dH cF (fun _=>(show (0 : Int) ≤ 3 by decide)) rest
      generalize hkk : k + cnL cF (l.take i) = kk
      have hkv : k + cnL cF (l.take (i + 1)) = kk + 1 + 1 + 1:=by rw [hp4];simp only [cF];omega
      simp only [cF] at hc1
      have hw1 : IntKind.i64.wrap (kk + 1) = kk + 1:=cB (by omega)
      have hw2 : IntKind.i64.wrap (kk + 1 + 1) = kk + 1 + 1:=cB (by omega)
      have hw3 : IntKind.i64.wrap (kk + 1 + 1 + 1) = kk + 1 + 1 + 1:=cB (by omega)
      have hwi : IntKind.i64.wrap ((i : Int) + 1) = ((i + 1 : Nat) : Int):=by rw [cB (by omega)];omega
      have hdi : decide ((i : Int) < (l.length : Int)) = true:=by simp;omega
      have hes : (TT.T 147).size = 3:=rfl
      refine pw_weak (M':=MT w0 (b :: bs') b bs' (pre ++ ([.str x.name,.int .i64 x.kind,.int .i64 x.number] ++ post))) (fun w h=>by rw [hp2] at h;exact h) ?_
      (repeat' (first|with_reducible (first|(refine cL ?_;intro K hK)|(refine bY ?_;intro K hK)|(refine dW ?_)|(refine cK ?_)|(refine d5 ?_)|(refine dU ?_)|(refine d6 ?_)|(refine dY ?_)|(refine dR ?_)|(refine bV ?_)|(refine bR ?_)|(refine bK ?_)|(refine bT ?_)|(refine bL ?_)|(refine bS rfl ?_)|(refine c7 rfl ?_)|(refine c6 rfl ?_)|(refine hK _ _ ?_;clear K hK))|((first|(refine d4 rfl (by decide) ?_)|(refine c8 rfl (by decide) ?_)|(refine dS rfl rfl rfl (by decide) ?_)|(refine dT TT rfl rfl rfl (by decide) ?_)|(refine cG TT rfl rfl rfl rfl rfl (by omega) (by omega) (by decide) ?_)|(refine cH TT rfl rfl rfl rfl (by decide) (by decide) ?_)|(refine pr_store (j:=0) (c:=.str (mtx _)) TT rfl rfl rfl rfl (by omega) rfl rfl ⟨rfl,mtx_len (by omega)⟩ (by simp) ?_)|(refine pr_store (j:=1) (c:=.int .i64 _) TT rfl rfl rfl rfl (by omega) rfl rfl rfl (by simp) ?_)|(refine pr_store (j:=2) (c:=.int .i64 _) TT rfl rfl rfl rfl (by omega) rfl rfl rfl (by simp) ?_)|(refine pr_pure (args:=[_]) (dG _ (by omega)) rfl (mrep1 _) (mrepS _) (fun w w' hF h=>MT.ext hF h) (by decide) ?_))<;>(try simp only [DV.zv,Int.toNat_natCast,List.set_cons_zero,List.set_cons_succ,hw1,hw2,hw3,hwi,hdi,hes]))))
      refine pq_then fun a w hs=>⟨hlt,hs.sub (by simp [getP,hkv]) (fun w h=>?_)⟩
      show MT _ _ _ _ (mixD encF fF cF l k (i + 1)) w
      rw [hp3,hkk]
      exact h
    · obtain rfl : i = l.length:=by omega
      (repeat' (first|with_reducible (first|(refine cL ?_;intro K hK)|(refine bY ?_;intro K hK)|(refine dW ?_)|(refine cK ?_)|(refine d5 ?_)|(refine dU ?_)|(refine d6 ?_)|(refine dY ?_)|(refine dR ?_)|(refine bV ?_)|(refine bR ?_)|(refine bK ?_)|(refine bT ?_)|(refine bL ?_)|(refine bS rfl ?_)|(refine c7 rfl ?_)|(refine c6 rfl ?_)|(refine hK _ _ ?_;clear K hK))|((first|(refine d4 rfl (by decide) ?_)|(refine c8 rfl (by decide) ?_)|(refine dS rfl rfl rfl (by decide) ?_)|(refine dT TT rfl rfl rfl (by decide) ?_)|(refine cG TT rfl rfl rfl rfl rfl (by omega) (by omega) (by decide) ?_)|(refine cH TT rfl rfl rfl rfl (by decide) (by decide) ?_))<;>(try simp only [DV.zv,Int.toNat_natCast,List.set_cons_zero,List.set_cons_succ,dJ]))))
      rintro a w ⟨h2,h3,h4,vs',g1,g2,g3,g4⟩
      rw [List.take_length] at h4
      rw [mixD_n] at g2
      refine ⟨.inr rfl,h4 4 _ rfl,h3,⟨_,cap,by simp [fD],by simpa [fD] using hcap,.inr ⟨b,vs',bs',rfl,rfl,g3,g1,?_,dI.2 g2⟩⟩,g4⟩
      intro x hx
      obtain ⟨y,_,rfl⟩:=List.mem_map.1 hx
      exact (fun _=>rfl) y
theorem fO (l : List Field) (k : Int) (H0 : 0 ≤ k) (H1 : k + cnL cF l ≤ 1000000000000000) : Gives Try.prog 73 [LF (mkL fF cF l k),I k] (I (k + cnL cF l)):=by
  refine bE TT Try.call73 Try.func73 rfl (by simp [Try.ntmps73]) (by kernel_rfl) fun E hk=>?_
  (repeat' (first|with_reducible (first|refine bC ?_|refine b7 ?_|refine bB ?_|refine bA ?_|refine bD ?_|refine aR ?_|refine b6 ?_|refine aX ?_|refine aO ?_|refine aY ?_|refine aU ?_|refine aZ rfl ?_|(refine hK _ ?_;clear K hK)|refine b4 rfl ?_|refine b5 rfl ?_|intro hfact)|(with_reducible refine And.intro ?_ ?_;focus (first|assumption|omega|(simp;done)|((repeat' apply And.intro)<;>first|assumption|omega)|((repeat' split)<;>omega)))|((first|with_reducible (first|((refine b9 TT ?_);intro K hK)|((refine aW TT ?_);intro K hK)|((refine b8 TT [] MX (by kernel_rfl) (by kernel_rfl) ?_);intro K hK)|((refine aT TT [] MX (by kernel_rfl) (by kernel_rfl) ?_);intro K hK))|(with_reducible (first|refine aP TT E (fun hb=>?_) (fun hb=>?_)|refine aQ TT E (fun hb=>?_) (fun hb=>?_)|refine aM TT _ _ (fun hb=>?_) (fun hb=>?_)|refine aN TT _ _ (fun hb=>?_) (fun hb=>?_))<;>try simp only [hb])|((first|refine aV TT E (dG _ (by first|assumption|omega|(refine (?_ : (0 : Int) ≤ _ → _) ?_<;>first|assumption|omega)|(simp;done)|(simp;omega))) rfl rfl ?_|refine aS TT _ _ (dG _ (by first|assumption|omega|(refine (?_ : (0 : Int) ≤ _ → _) ?_<;>first|assumption|omega)|(simp;done)|(simp;omega))) rfl rfl ?_);intro m hm;try dsimp only at hm))<;>simp only [go_sem,↓reduceIte,aG,aH,a7,aA,aC,aD,aB,aE,a8,reduceCtorEq,aF,aI,aJ,aK,aL])))
  refine bX (mkL fF cF l k) (List.length (mkL fF cF l k)) 0 [] [0] (fun j s=>[(1,I s.1),(5,I j)]) (fun obs j s=>obs) (fun j s=>[]) (fun j rest s nt=>rest = mkL fF cF s.2 s.1 ∧ s.1 + cnL cF s.2 = k + cnL cF l ∧ 0 ≤ s.1) ((k,l)) (by first|rfl|(simp;done)|(simp;omega)) (by first|rfl|(simp only [go_sem,↓reduceIte,a7,aA,aB,a8,reduceCtorEq];done)|(simp only [go_sem,↓reduceIte,a7,aA,aB,a8,reduceCtorEq];simp;done)) (by simp only [go_sem,↓reduceIte,a7,aA,aB,a8,reduceCtorEq];rfl) (by first|rfl|(simp only [go_sem,↓reduceIte,a7,aA,aB,a8,reduceCtorEq];rfl)) (⟨rfl,rfl,H0⟩) (by unfold ASubW;simp only [go_sem,↓reduceIte,a7,aA,aB,a8,reduceCtorEq,hk];try simp) ?_ ?_
  · rintro ⟨kk,r⟩ nt hmax ⟨h1,h2,h3⟩
    cases r with
    | cons y r=>simp [mkL] at h1
    | nil =>
      (repeat' (first|with_reducible (first|refine bC ?_|refine b7 ?_|refine bB ?_|refine bA ?_|refine bD ?_|refine aR ?_|refine b6 ?_|refine aX ?_|refine aO ?_|refine aY ?_|refine aU ?_|refine aZ rfl ?_|(refine hK _ ?_;clear K hK)|refine b4 rfl ?_|refine b5 rfl ?_|intro hfact)|(with_reducible refine And.intro ?_ ?_;focus (first|assumption|omega|(simp;done)|((repeat' apply And.intro)<;>first|assumption|omega)|((repeat' split)<;>omega)))|((first|with_reducible (first|((refine b9 TT ?_);intro K hK)|((refine aW TT ?_);intro K hK)|((refine b8 TT [] MX (by kernel_rfl) (by kernel_rfl) ?_);intro K hK)|((refine aT TT [] MX (by kernel_rfl) (by kernel_rfl) ?_);intro K hK))|(with_reducible (first|refine aP TT E (fun hb=>?_) (fun hb=>?_)|refine aQ TT E (fun hb=>?_) (fun hb=>?_)|refine aM TT _ _ (fun hb=>?_) (fun hb=>?_)|refine aN TT _ _ (fun hb=>?_) (fun hb=>?_))<;>try simp only [hb])|((first|refine aV TT E (dG _ (by first|assumption|omega|(refine (?_ : (0 : Int) ≤ _ → _) ?_<;>first|assumption|omega)|(simp;done)|(simp;omega))) rfl rfl ?_|refine aS TT _ _ (dG _ (by first|assumption|omega|(refine (?_ : (0 : Int) ≤ _ → _) ?_<;>first|assumption|omega)|(simp;done)|(simp;omega))) rfl rfl ?_);intro m hm;try dsimp only at hm))<;>simp only [go_sem,↓reduceIte,aG,aH,a7,aA,aC,aD,aB,aE,a8,reduceCtorEq,aF,aI,aJ,aK,aL])))
      refine bF TT (by simp only [go_sem,↓reduceIte,a7,aA,aB,a8,reduceCtorEq,Try.results73];rfl) rfl ?_;simp only [resV,cnL] at *;rw [← h2];simp
  · rintro j x rest ⟨kk,r⟩ nt hA ⟨h1,h2,h3⟩
    cases r with
    | nil=>simp [mkL] at h1
    | cons y r =>
      simp only [mkL,List.cons.injEq] at h1
      obtain ⟨hxx,hrest⟩:=h1
      rw [hxx] at hA
      simp only [cnL,cF] at h2
      dsimp only at h3
      have hcr:=dH cF (fun _=>(show (0 : Int) ≤ 3 by decide)) r
      have hw1 : IntKind.i64.wrap (kk + 1) = kk + 1:=cB (by omega)
      have hw2 : IntKind.i64.wrap (kk + 1 + 1) = kk + 1 + 1:=cB (by omega)
      have hw3 : IntKind.i64.wrap (kk + 1 + 1 + 1) = kk + 1 + 1 + 1:=cB (by omega)
      (repeat' (first|with_reducible (first|refine bC ?_|refine b7 ?_|refine bB ?_|refine bA ?_|refine bD ?_|refine aR ?_|refine b6 ?_|refine aX ?_|refine aO ?_|refine aY ?_|refine aU ?_|refine aZ rfl ?_|(refine hK _ ?_;clear K hK)|refine b4 rfl ?_|refine b5 rfl ?_|intro hfact)|(with_reducible refine And.intro ?_ ?_;focus (first|assumption|omega|(simp;done)|((repeat' apply And.intro)<;>first|assumption|omega)|((repeat' split)<;>omega)))|((first|with_reducible (first|((refine b9 TT ?_);intro K hK)|((refine aW TT ?_);intro K hK)|((refine b8 TT [] MX (by kernel_rfl) (by kernel_rfl) ?_);intro K hK)|((refine aT TT [] MX (by kernel_rfl) (by kernel_rfl) ?_);intro K hK))|(with_reducible (first|refine aP TT E (fun hb=>?_) (fun hb=>?_)|refine aQ TT E (fun hb=>?_) (fun hb=>?_)|refine aM TT _ _ (fun hb=>?_) (fun hb=>?_)|refine aN TT _ _ (fun hb=>?_) (fun hb=>?_))<;>try simp only [hb])|((first|refine aV TT E (dG _ (by omega)) rfl rfl ?_|refine aS TT _ _ (dG _ (by omega)) rfl rfl ?_);intro m hm;try dsimp only at hm))<;>simp only [go_sem,↓reduceIte,aG,aH,a7,aA,aC,aD,aB,aE,a8,reduceCtorEq,aF,aI,aJ,aK,aL,hA.d,hA.w,hA.lt,hA.g,encF,fF,hw1,hw2,hw3,])|refine bQ rfl (fun hb=>?_) (fun hb=>?_)|refine bP rfl (fun hb=>?_) (fun hb=>?_)|refine bH rfl (fun hb=>?_) (fun hb=>?_)))
      refine ⟨(kk + 1 + 1 + 1,r),⟨by rw [hrest];(first|rfl|(simp only [cF];done)|(simp only [cF];congr 1;omega)),by dsimp only;omega,by dsimp only;omega⟩,(by unfold ASubW;simp only [go_sem,↓reduceIte,a7,aA,aB,a8,reduceCtorEq,hk];try simp)⟩
set_option maxHeartbeats 4000000 in
set_option maxRecDepth 100000 in
theorem markI_ok (l : List Int) (k : Int) (h0 : 0 ≤ k) (h1 : k + cnL cI l ≤ 1000000000000000) : MarkF Try.prog 70 (LI l) (LI (mkL fI cI l k)) k (k + cnL cI l):=by
  refine gF (rt:=4) Try.call70 Try.func70 rfl rfl Try.ntmps70 (by decide) fun w0 v bs hT=>?_
  simp only [TreeA,TreeV] at hT
  obtain ⟨a,cap,rfl,hcap,hx⟩:=hT
  rw [List.length_map] at *
  rcases hx with ⟨hnil,rfl⟩|⟨b,vs,bs',rfl,rfl,hbn,hcell,hsz,hll⟩
  · obtain rfl : l = []:=by simpa using hnil
    (repeat' (first|with_reducible (first|(refine cL ?_;intro K hK)|(refine bY ?_;intro K hK)|(refine dW ?_)|(refine cK ?_)|(refine d5 ?_)|(refine dU ?_)|(refine d6 ?_)|(refine dY ?_)|(refine dR ?_)|(refine bV ?_)|(refine bR ?_)|(refine bK ?_)|(refine bT ?_)|(refine bL ?_)|(refine bS rfl ?_)|(refine c7 rfl ?_)|(refine c6 rfl ?_)|(refine hK _ _ ?_;clear K hK))|((first|(refine d4 rfl (by decide) ?_)|(refine c8 rfl (by decide) ?_)|(refine dS rfl rfl rfl (by decide) ?_)|(refine dT TT rfl rfl rfl (by decide) ?_)|(refine cG TT rfl rfl rfl rfl rfl (by omega) (by omega) (by decide) ?_)|(refine cH TT rfl rfl rfl rfl (by decide) (by decide) ?_))<;>(try simp only [DV.zv,Int.toNat_natCast,List.set_cons_zero,List.set_cons_succ]))))
    refine pw_sub (env':=[(0,.slice a 0 cap),(1,.int .i64 k),(5,.int .i64 (0 : Nat))]) (by simp [getP]) (fun w h=>h) ?_
    refine pw_loop 0 5 (fun i=>[(0,.slice a 0 cap),(1,.int .i64 k),(5,.int .i64 i)]) (fun _ w=>w = w0) (fun i=>rfl) ⟨rfl,rfl⟩ fun i hi=>?_
    obtain rfl : i = 0:=by omega
    (repeat' (first|with_reducible (first|(refine cL ?_;intro K hK)|(refine bY ?_;intro K hK)|(refine dW ?_)|(refine cK ?_)|(refine d5 ?_)|(refine dU ?_)|(refine d6 ?_)|(refine dY ?_)|(refine dR ?_)|(refine bV ?_)|(refine bR ?_)|(refine bK ?_)|(refine bT ?_)|(refine bL ?_)|(refine bS rfl ?_)|(refine c7 rfl ?_)|(refine c6 rfl ?_)|(refine hK _ _ ?_;clear K hK))|((first|(refine d4 rfl (by decide) ?_)|(refine c8 rfl (by decide) ?_)|(refine dS rfl rfl rfl (by decide) ?_)|(refine dT TT rfl rfl rfl (by decide) ?_)|(refine cG TT rfl rfl rfl rfl rfl (by omega) (by omega) (by decide) ?_)|(refine cH TT rfl rfl rfl rfl (by decide) (by decide) ?_))<;>(try simp only [DV.zv,Int.toNat_natCast,List.set_cons_zero,List.set_cons_succ,dJ]))))
    rintro a w ⟨h2,h3,h4,rfl⟩
    exact ⟨.inr rfl,by rw [h4 4 _ rfl];simp [cnL],h3,⟨_,cap,rfl,hcap,.inl ⟨rfl,rfl⟩⟩,FrameW.refl _ _⟩
  · have hM0 : MT w0 (b :: bs') b bs' (mixD encI fI cI l k 0) w0:=⟨vs,hcell,by rw [mixD_0];exact dI.1 hll,hbn,FrameW.refl _ _⟩
    (repeat' (first|with_reducible (first|(refine cL ?_;intro K hK)|(refine bY ?_;intro K hK)|(refine dW ?_)|(refine cK ?_)|(refine d5 ?_)|(refine dU ?_)|(refine d6 ?_)|(refine dY ?_)|(refine dR ?_)|(refine bV ?_)|(refine bR ?_)|(refine bK ?_)|(refine bT ?_)|(refine bL ?_)|(refine bS rfl ?_)|(refine c7 rfl ?_)|(refine c6 rfl ?_)|(refine hK _ _ ?_;clear K hK))|((first|(refine d4 rfl (by decide) ?_)|(refine c8 rfl (by decide) ?_)|(refine dS rfl rfl rfl (by decide) ?_)|(refine dT TT rfl rfl rfl (by decide) ?_)|(refine cG TT rfl rfl rfl rfl rfl (by omega) (by omega) (by decide) ?_)|(refine cH TT rfl rfl rfl rfl (by decide) (by decide) ?_))<;>(try simp only [DV.zv,Int.toNat_natCast,List.set_cons_zero,List.set_cons_succ]))))
    refine pw_sub (env':=[(0,.slice (some ⟨b,0,none⟩) l.length cap),(1,.int .i64 (k + cnL cI (l.take 0))),(5,.int .i64 (0 : Nat))]) (by simp [getP,cnL]) (M':=MT w0 (b :: bs') b bs' (mixD encI fI cI l k 0)) (fun w h=>h ▸ hM0) ?_
    refine pw_loop l.length 5 (fun i=>[(0,.slice (some ⟨b,0,none⟩) l.length cap),(1,.int .i64 (k + cnL cI (l.take i))),(5,.int .i64 i)]) (fun i=>MT w0 (b :: bs') b bs' (mixD encI fI cI l k i)) (fun i=>rfl) ⟨rfl,rfl⟩ fun i hi=>?_
    by_cases hlt : i < l.length
    · obtain ⟨x,rest,hdr⟩ : ∃ x rest,l.drop i = x :: rest:=⟨l[i],l.drop (i + 1),List.drop_eq_getElem_cons hlt⟩
      obtain ⟨pre,post,hp1,hp2,hp3,hp4⟩:=mixD_at encI fI cI (sz:=1) (fun _=>rfl) k hdr hi
      have hc0:=dH cI (fun _=>(show (0 : Int) ≤ 1 by decide)) (l.take i)
      have hc1:=cnL_split cI hdr
      have hc2:=dH cI (fun _=>(show (0 : Int) ≤ 1 by decide)) rest
      generalize hkk : k + cnL cI (l.take i) = kk
      have hkv : k + cnL cI (l.take (i + 1)) = kk + 1:=by rw [hp4];simp only [cI];omega
      simp only [cI] at hc1
      have hw1 : IntKind.i64.wrap (kk + 1) = kk + 1:=cB (by omega)
      have hwi : IntKind.i64.wrap ((i : Int) + 1) = ((i + 1 : Nat) : Int):=by rw [cB (by omega)];omega
      have hdi : decide ((i : Int) < (l.length : Int)) = true:=by simp;omega
      have hes : (TT.T 3).size = 1:=rfl
      refine pw_weak (M':=MT w0 (b :: bs') b bs' (pre ++ ([.int .i64 x] ++ post))) (fun w h=>by rw [hp2] at h;exact h) ?_
      (repeat' (first|with_reducible (first|(refine cL ?_;intro K hK)|(refine bY ?_;intro K hK)|(refine dW ?_)|(refine cK ?_)|(refine d5 ?_)|(refine dU ?_)|(refine d6 ?_)|(refine dY ?_)|(refine dR ?_)|(refine bV ?_)|(refine bR ?_)|(refine bK ?_)|(refine bT ?_)|(refine bL ?_)|(refine bS rfl ?_)|(refine c7 rfl ?_)|(refine c6 rfl ?_)|(refine hK _ _ ?_;clear K hK))|((first|(refine d4 rfl (by decide) ?_)|(refine c8 rfl (by decide) ?_)|(refine dS rfl rfl rfl (by decide) ?_)|(refine dT TT rfl rfl rfl (by decide) ?_)|(refine cG TT rfl rfl rfl rfl rfl (by omega) (by omega) (by decide) ?_)|(refine cH TT rfl rfl rfl rfl (by decide) (by decide) ?_)|(refine pr_store (j:=0) (c:=.int .i64 _) TT rfl rfl rfl rfl (by omega) rfl rfl rfl (by simp) ?_))<;>(try simp only [DV.zv,Int.toNat_natCast,List.set_cons_zero,List.set_cons_succ,hw1,hwi,hdi,hes]))))
      refine pq_then fun a w hs=>⟨hlt,hs.sub (by simp [getP,hkv]) (fun w h=>?_)⟩
      show MT _ _ _ _ (mixD encI fI cI l k (i + 1)) w
      rw [hp3,hkk]
      exact h
    · obtain rfl : i = l.length:=by omega
      (repeat' (first|with_reducible (first|(refine cL ?_;intro K hK)|(refine bY ?_;intro K hK)|(refine dW ?_)|(refine cK ?_)|(refine d5 ?_)|(refine dU ?_)|(refine d6 ?_)|(refine dY ?_)|(refine dR ?_)|(refine bV ?_)|(refine bR ?_)|(refine bK ?_)|(refine bT ?_)|(refine bL ?_)|(refine bS rfl ?_)|(refine c7 rfl ?_)|(refine c6 rfl ?_)|(refine hK _ _ ?_;clear K hK))|((first|(refine d4 rfl (by decide) ?_)|(refine c8 rfl (by decide) ?_)|(refine dS rfl rfl rfl (by decide) ?_)|(refine dT TT rfl rfl rfl (by decide) ?_)|(refine cG TT rfl rfl rfl rfl rfl (by omega) (by omega) (by decide) ?_)|(refine cH TT rfl rfl rfl rfl (by decide) (by decide) ?_))<;>(try simp only [DV.zv,Int.toNat_natCast,List.set_cons_zero,List.set_cons_succ,dJ]))))
      rintro a w ⟨h2,h3,h4,vs',g1,g2,g3,g4⟩
      rw [List.take_length] at h4
      rw [mixD_n] at g2
      refine ⟨.inr rfl,h4 4 _ rfl,h3,⟨_,cap,by simp [fD],by simpa [fD] using hcap,.inr ⟨b,vs',bs',rfl,rfl,g3,g1,?_,dI.2 g2⟩⟩,g4⟩
      intro x hx
      obtain ⟨y,_,rfl⟩:=List.mem_map.1 hx
      exact (fun _=>rfl) y
theorem fN (l : List Int) (k : Int) (H0 : 0 ≤ k) (H1 : k + cnL cI l ≤ 1000000000000000) : Gives Try.prog 72 [LI (mkL fI cI l k),I k] (I (k + cnL cI l)):=by
  refine bE TT Try.call72 Try.func72 rfl (by simp [Try.ntmps72]) (by kernel_rfl) fun E hk=>?_
  (repeat' (first|with_reducible (first|refine bC ?_|refine b7 ?_|refine bB ?_|refine bA ?_|refine bD ?_|refine aR ?_|refine b6 ?_|refine aX ?_|refine aO ?_|refine aY ?_|refine aU ?_|refine aZ rfl ?_|(refine hK _ ?_;clear K hK)|refine b4 rfl ?_|refine b5 rfl ?_|intro hfact)|(with_reducible refine And.intro ?_ ?_;focus (first|assumption|omega|(simp;done)|((repeat' apply And.intro)<;>first|assumption|omega)|((repeat' split)<;>omega)))|((first|with_reducible (first|((refine b9 TT ?_);intro K hK)|((refine aW TT ?_);intro K hK)|((refine b8 TT [] MX (by kernel_rfl) (by kernel_rfl) ?_);intro K hK)|((refine aT TT [] MX (by kernel_rfl) (by kernel_rfl) ?_);intro K hK))|(with_reducible (first|refine aP TT E (fun hb=>?_) (fun hb=>?_)|refine aQ TT E (fun hb=>?_) (fun hb=>?_)|refine aM TT _ _ (fun hb=>?_) (fun hb=>?_)|refine aN TT _ _ (fun hb=>?_) (fun hb=>?_))<;>try simp only [hb]))<;>simp only [go_sem,↓reduceIte,aG,aH,a7,aA,aC,aD,aB,aE,a8,reduceCtorEq,aF,aI,aJ,aK,aL])))
  refine bX (mkL fI cI l k) (List.length (mkL fI cI l k)) 0 [] [0] (fun j s=>[(1,I s.1),(5,I j)]) (fun obs j s=>obs) (fun j s=>[]) (fun j rest s nt=>rest = mkL fI cI s.2 s.1 ∧ s.1 + cnL cI s.2 = k + cnL cI l ∧ 0 ≤ s.1) ((k,l)) (by first|rfl|(simp;done)|(simp;omega)) (by first|rfl|(simp only [go_sem,↓reduceIte,a7,aA,aB,a8,reduceCtorEq];done)|(simp only [go_sem,↓reduceIte,a7,aA,aB,a8,reduceCtorEq];simp;done)) (by simp only [go_sem,↓reduceIte,a7,aA,aB,a8,reduceCtorEq];rfl) (by first|rfl|(simp only [go_sem,↓reduceIte,a7,aA,aB,a8,reduceCtorEq];rfl)) (⟨rfl,rfl,H0⟩) (by unfold ASubW;simp only [go_sem,↓reduceIte,a7,aA,aB,a8,reduceCtorEq,hk];try simp) ?_ ?_
  · rintro ⟨kk,r⟩ nt hmax ⟨h1,h2,h3⟩
    cases r with
    | cons y r=>simp [mkL] at h1
    | nil =>
      (repeat' (first|with_reducible (first|refine bC ?_|refine b7 ?_|refine bB ?_|refine bA ?_|refine bD ?_|refine aR ?_|refine b6 ?_|refine aX ?_|refine aO ?_|refine aY ?_|refine aU ?_|refine aZ rfl ?_|(refine hK _ ?_;clear K hK)|refine b4 rfl ?_|refine b5 rfl ?_|intro hfact)|(with_reducible refine And.intro ?_ ?_;focus (first|assumption|omega|(simp;done)|((repeat' apply And.intro)<;>first|assumption|omega)|((repeat' split)<;>omega)))|((first|with_reducible (first|((refine b9 TT ?_);intro K hK)|((refine aW TT ?_);intro K hK)|((refine b8 TT [] MX (by kernel_rfl) (by kernel_rfl) ?_);intro K hK)|((refine aT TT [] MX (by kernel_rfl) (by kernel_rfl) ?_);intro K hK))|(with_reducible (first|refine aP TT E (fun hb=>?_) (fun hb=>?_)|refine aQ TT E (fun hb=>?_) (fun hb=>?_)|refine aM TT _ _ (fun hb=>?_) (fun hb=>?_)|refine aN TT _ _ (fun hb=>?_) (fun hb=>?_))<;>try simp only [hb]))<;>simp only [go_sem,↓reduceIte,aG,aH,a7,aA,aC,aD,aB,aE,a8,reduceCtorEq,aF,aI,aJ,aK,aL])))
      refine bF TT (by simp only [go_sem,↓reduceIte,a7,aA,aB,a8,reduceCtorEq,Try.results72];rfl) rfl ?_;simp only [resV,cnL] at *;rw [← h2];simp
  · rintro j x rest ⟨kk,r⟩ nt hA ⟨h1,h2,h3⟩
    cases r with
    | nil=>simp [mkL] at h1
    | cons y r =>
      simp only [mkL,List.cons.injEq] at h1
      obtain ⟨hxx,hrest⟩:=h1
      rw [hxx] at hA
      simp only [cnL,cI] at h2
      dsimp only at h3
      have hcr:=dH cI (fun _=>(show (0 : Int) ≤ 1 by decide)) r
      have hw1 : IntKind.i64.wrap (kk + 1) = kk + 1:=cB (by omega)
      (repeat' (first|with_reducible (first|refine bC ?_|refine b7 ?_|refine bB ?_|refine bA ?_|refine bD ?_|refine aR ?_|refine b6 ?_|refine aX ?_|refine aO ?_|refine aY ?_|refine aU ?_|refine aZ rfl ?_|(refine hK _ ?_;clear K hK)|refine b4 rfl ?_|refine b5 rfl ?_|intro hfact)|(with_reducible refine And.intro ?_ ?_;focus (first|assumption|omega|(simp;done)|((repeat' apply And.intro)<;>first|assumption|omega)|((repeat' split)<;>omega)))|((first|with_reducible (first|((refine b9 TT ?_);intro K hK)|((refine aW TT ?_);intro K hK)|((refine b8 TT [] MX (by kernel_rfl) (by kernel_rfl) ?_);intro K hK)|((refine aT TT [] MX (by kernel_rfl) (by kernel_rfl) ?_);intro K hK))|(with_reducible (first|refine aP TT E (fun hb=>?_) (fun hb=>?_)|refine aQ TT E (fun hb=>?_) (fun hb=>?_)|refine aM TT _ _ (fun hb=>?_) (fun hb=>?_)|refine aN TT _ _ (fun hb=>?_) (fun hb=>?_))<;>try simp only [hb])|((first|refine aV TT E (dG _ (by omega)) rfl rfl ?_|refine aS TT _ _ (dG _ (by omega)) rfl rfl ?_);intro m hm;try dsimp only at hm))<;>simp only [go_sem,↓reduceIte,aG,aH,a7,aA,aC,aD,aB,aE,a8,reduceCtorEq,aF,aI,aJ,aK,aL,hA.d,hA.w,hA.lt,hA.g,encI,fI,hw1,])|refine bQ rfl (fun hb=>?_) (fun hb=>?_)|refine bP rfl (fun hb=>?_) (fun hb=>?_)|refine bH rfl (fun hb=>?_) (fun hb=>?_)))
      refine ⟨(kk + 1,r),⟨by rw [hrest];(first|rfl|(simp only [cI];done)|(simp only [cI];congr 1;omega)),by dsimp only;omega,by dsimp only;omega⟩,(by unfold ASubW;simp only [go_sem,↓reduceIte,a7,aA,aB,a8,reduceCtorEq,hk];try simp)⟩
end Go.Proofs.Ytdfbaedkcfhdfaa
