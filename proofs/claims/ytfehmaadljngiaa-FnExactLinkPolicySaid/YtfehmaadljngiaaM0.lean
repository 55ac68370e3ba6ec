import Derived.Test.YtfehmaadljngiaaF0
import Derived.Test.YtfehmaadljngiaaCoreE
open Int renaming reduceToNat → aE,reduceBEq → aF,reduceBNe → aG,reduceNeg → aH,reduceEq → aI,reduceLE → aJ,reduceLT → aK
open Nat renaming reduceEqDiff → a7,reduceLeDiff → a8,reduceAdd → a9,reduceLT → aA,reduceMul → aB,reduceSub → aC,reduceBEq → aD
namespace Go.Proofs.Ytfehmaadljngiaa
open Go Go.AL
set_option linter.unusedSimpArgs false
set_option linter.unusedVariables false
def dstep (k : Int) : UInt8:=UInt8.ofNat (IntKind.u8.wrap (IntKind.i64.wrap (48 + k.tmod 10))).toNat
def dig (k : Int) (out : List UInt8) : List UInt8:=if h : 0 < k then dig (k.tdiv 10) (dstep k :: out) else out
termination_by k.toNat
decreasing_by
  have : k.tdiv 10 < k:=by rw [Int.tdiv_eq_ediv_of_nonneg (by omega)];omega
  omega
def mtx (k : Int) : List UInt8:=if k ≤ 0 then [109,48] else 109 :: dig k []
theorem tdiv10 {k : Int} (h : 0 < k) : 0 ≤ k.tdiv 10 ∧ k.tdiv 10 < k:=by
  rw [Int.tdiv_eq_ediv_of_nonneg (by omega)];omega
theorem dig_len (m : Nat) : ∀ (k : Int) (out : List UInt8),k.toNat ≤ m → (dig k out).length ≤ out.length + k.toNat:=by
  induction m with
  | zero=>intro k out h;rw [dig];split<;>simp_all<;>omega
  | succ m ih =>
    intro k out h
    rw [dig]
    split
    · rename_i hk
      have:=tdiv10 hk
      have h2:=ih (k.tdiv 10) (dstep k :: out) (by omega)
      simp only [List.length_cons] at h2
      omega
    · omega
theorem mtx_len {k : Int} (h : k ≤ 1000000000000000) : (mtx k).length ≤ 9223372036854775807:=by
  unfold mtx
  split
  · simp
  · have:=dig_len k.toNat k [] (Nat.le_refl _)
    simp only [List.length_cons,List.length_nil] at *
    omega
theorem eO (k : Int) (Hk : k ≤ 1000000000000000) : Gives Try.prog 41 [I k] (S (mtx k)):=by
  refine bE TT Try.call41 Try.func41 rfl (by simp [Try.ntmps41]) (by kernel_rfl) fun E hk=>?_
  (repeat' (first|with_reducible (first|refine bC ?_|refine b6 ?_|refine bB ?_|refine b9 ?_|refine bD ?_|refine aR ?_|refine b8 ?_|refine aZ ?_|refine aO ?_|refine b4 ?_|refine aU ?_|refine aX rfl ?_|(refine hK _ ?_;clear K hK)|refine aY rfl ?_|refine aW rfl ?_|intro hfact)|(with_reducible refine And.intro ?_ ?_;focus (first|assumption|omega|(simp;done)|((repeat' apply And.intro)<;>first|assumption|omega)|((repeat' split)<;>omega)))|((first|with_reducible (first|((refine bA TT ?_);intro K hK)|((refine aV TT ?_);intro K hK)|((refine b7 TT [] MX (by kernel_rfl) (by kernel_rfl) ?_);intro K hK)|((refine aT TT [] MX (by kernel_rfl) (by kernel_rfl) ?_);intro K hK))|(with_reducible (first|refine aP TT E (fun hb=>?_) (fun hb=>?_)|refine aN TT E (fun hb=>?_) (fun hb=>?_)|refine aM TT _ _ (fun hb=>?_) (fun hb=>?_)|refine aL TT _ _ (fun hb=>?_) (fun hb=>?_))<;>try simp only [hb]))<;>simp only [go_sem,↓reduceIte,aF,aG,a7,a9,aB,aC,aA,aD,a8,reduceCtorEq,aE,aH,aI,aJ,aK])|refine bH rfl (fun hb=>?_) (fun hb=>?_)|refine bJ rfl (fun hb=>?_) (fun hb=>?_)|refine bG rfl (fun hb=>?_) (fun hb=>?_)))
  · refine bI TT (by simp only [go_sem,↓reduceIte,a7,a9,aA,a8,reduceCtorEq,Try.results41];rfl) rfl ?_;simp [resV,mtx,hb]
  refine awp_lp [] (fun (s : Int × List UInt8)=>[(0,I s.1),(3,S s.2)]) (fun obs (s : Int × List UInt8)=>obs) (fun (s : Int × List UInt8)=>[]) (fun (s : Int × List UInt8) nt=>0 ≤ s.1 ∧ s.1 ≤ k ∧ (s.2.length : Int) + s.1 ≤ 1000000000000000 ∧ dig s.1 s.2 = dig k []) (fun (s : Int × List UInt8)=>s.1.toNat) ((k,[])) (by simp only [go_sem,↓reduceIte,a7,a9,aA,a8,reduceCtorEq];rfl) (by first|rfl|(simp only [go_sem,↓reduceIte,a7,a9,aA,a8,reduceCtorEq];rfl)) (⟨by omega,by simp,by simpa using Hk,rfl⟩) (by unfold ASubW;simp only [go_sem,↓reduceIte,a7,a9,aA,a8,reduceCtorEq,hk];try simp) ?_
  rintro ⟨q,out⟩ nt ⟨h1,h2,h3,h4⟩
  dsimp only at *
  by_cases hq : 0 < q
  · have hd:=tdiv10 hq
    have hw : IntKind.i64.wrap (q.tdiv 10) = q.tdiv 10:=d4 (by omega)
    have hc : decide (0 < q) = true:=by simpa using hq
    have hds : dig q out = dig (q.tdiv 10) (dstep q :: out):=by rw [dig,dif_pos hq]
    (repeat' (first|with_reducible (first|refine bC ?_|refine b6 ?_|refine bB ?_|refine b9 ?_|refine bD ?_|refine aR ?_|refine b8 ?_|refine aZ ?_|refine aO ?_|refine b4 ?_|refine aU ?_|refine aX rfl ?_|(refine hK _ ?_;clear K hK)|refine aY rfl ?_|refine aW rfl ?_|intro hfact)|(with_reducible refine And.intro ?_ ?_;focus (first|assumption|omega|(simp;done)|((repeat' apply And.intro)<;>first|assumption|omega)|((repeat' split)<;>omega)))|((first|with_reducible (first|((refine bA TT ?_);intro K hK)|((refine aV TT ?_);intro K hK)|((refine b7 TT [] MX (by kernel_rfl) (by kernel_rfl) ?_);intro K hK)|((refine aT TT [] MX (by kernel_rfl) (by kernel_rfl) ?_);intro K hK))|(with_reducible (first|refine aP TT E (fun hb=>?_) (fun hb=>?_)|refine aN TT E (fun hb=>?_) (fun hb=>?_)|refine aM TT _ _ (fun hb=>?_) (fun hb=>?_)|refine aL TT _ _ (fun hb=>?_) (fun hb=>?_))<;>try simp only [hb]))<;>simp only [go_sem,↓reduceIte,aF,aG,a7,a9,aB,aC,aA,aD,a8,reduceCtorEq,aE,aH,aI,aJ,aK,hw,hc])|refine bH rfl (fun hb=>?_) (fun hb=>?_)|refine bJ rfl (fun hb=>?_) (fun hb=>?_)|refine bG rfl (fun hb=>?_) (fun hb=>?_)))
    refine ⟨(q.tdiv 10,dstep q :: out),⟨by omega,by omega,by simp;omega,by rw [← h4,hds]⟩,by dsimp only;omega,(by unfold ASubW;simp only [go_sem,↓reduceIte,a7,a9,aA,a8,reduceCtorEq,hk,dstep];try simp)⟩
  · have hc : decide (0 < q) = false:=by simpa using hq
    have hds : dig q out = out:=by rw [dig,dif_neg hq]
    (repeat' (first|with_reducible (first|refine bC ?_|refine b6 ?_|refine bB ?_|refine b9 ?_|refine bD ?_|refine aR ?_|refine b8 ?_|refine aZ ?_|refine aO ?_|refine b4 ?_|refine aU ?_|refine aX rfl ?_|(refine hK _ ?_;clear K hK)|refine aY rfl ?_|refine aW rfl ?_|intro hfact)|(with_reducible refine And.intro ?_ ?_;focus (first|assumption|omega|(simp;done)|((repeat' apply And.intro)<;>first|assumption|omega)|((repeat' split)<;>omega)))|((first|with_reducible (first|((refine bA TT ?_);intro K hK)|((refine aV TT ?_);intro K hK)|((refine b7 TT [] MX (by kernel_rfl) (by kernel_rfl) ?_);intro K hK)|((refine aT TT [] MX (by kernel_rfl) (by kernel_rfl) ?_);intro K hK))|(with_reducible (first|refine aP TT E (fun hb=>?_) (fun hb=>?_)|refine aN TT E (fun hb=>?_) (fun hb=>?_)|refine aM TT _ _ (fun hb=>?_) (fun hb=>?_)|refine aL TT _ _ (fun hb=>?_) (fun hb=>?_))<;>try simp only [hb]))<;>simp only [go_sem,↓reduceIte,aF,aG,a7,a9,aB,aC,aA,aD,a8,reduceCtorEq,aE,aH,aI,aJ,aK,hc])|refine bH rfl (fun hb=>?_) (fun hb=>?_)|refine bJ rfl (fun hb=>?_) (fun hb=>?_)|refine bG rfl (fun hb=>?_) (fun hb=>?_)))
    refine bI TT (by simp only [go_sem,↓reduceIte,a7,a9,aA,a8,reduceCtorEq,Try.results41];rfl) rfl ?_;simp only [resV];rw [mtx,if_neg hb,← h4,hds]
def fF (_ : Field) (k : Int) : Field:=⟨mtx k,k + 1,k + 1 + 1⟩
def cF (_ : Field) : Int:=3
def fS (_ : List UInt8) (k : Int) : List UInt8:=mtx k
def cS (_ : List UInt8) : Int:=1
def fI (_ : Int) (k : Int) : Int:=k
def cI (_ : Int) : Int:=1
end Go.Proofs.Ytfehmaadljngiaa
