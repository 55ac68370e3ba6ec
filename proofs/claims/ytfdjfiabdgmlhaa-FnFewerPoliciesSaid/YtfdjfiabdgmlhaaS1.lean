import Derived.Test.YtfdjfiabdgmlhaaS0
import Derived.Test.YtfdjfiabdgmlhaaS1a
open Nat renaming reduceEqDiff → a7,reduceLeDiff → a8,reduceAdd → aA,reduceLT → aB,reduceMul → aC,reduceSub → aD,reduceBEq → aE
namespace Go.Proofs.Ytfdjfiabdgmlhaa
open Go Go.AL
set_option linter.unusedSimpArgs false
set_option linter.unusedVariables false
theorem map_erase {α β : Type} (f : α → β) : ∀ (l : List α) (k : Nat),(l.eraseIdx k).map f = (l.map f).eraseIdx k
  | [],k=>rfl
  | x :: l,0=>rfl
  | x :: l,k + 1=>by simp [map_erase f l k]
theorem ev_i (k : Nat) (h : k < 9000000000000000000) : IntKind.i64.wrap ((k : Int) + 1) = (k : Int) + 1:=bR (by omega)
theorem withoutX (l : List Policy) (k : Nat) (hk : k < l.length) (hl : l.length ≤ 1000000) : AC Try.prog 96 [LP l,I k] [] fun _ v o t _=>v.erR = LP (l.eraseIdx k) ∧ o = [] ∧ t = []:=by
  refine ac_of_bodyP TT Try.call96 Try.func96 rfl (by simp [Try.ntmps96]) (by kernel_rfl) fun E ys hE hys hyl hold=>?_
  have hyne : ys ≠ []:=fun e=>by rw [e] at hyl;simp at hyl;omega
  have hyl' : ys.length ≤ 1000000:=by rw [hyl];simpa using hl
  have hw:=ev_i k (by omega)
  (repeat' (first|((refine awp_seqrS (id:=1) TT 1 ?_;intro K hK;simp only [List.take_succ_cons,List.take_zero];simp only [go_sem,↓reduceIte,a7,aA,aB,a8,reduceCtorEq]))|with_reducible (first|refine bC ?_|refine b7 ?_|refine bB ?_|refine b9 ?_|refine bD ?_|refine aT ?_|refine b6 ?_|refine b4 ?_|refine aR ?_|refine aY ?_|refine aU ?_|refine b5 rfl ?_|(refine hK _ ?_;clear K hK)|refine aZ rfl ?_|refine aX rfl ?_|intro hfact)|(with_reducible refine And.intro ?_ ?_;focus (first|assumption|omega|(simp;done)|((repeat' apply And.intro)<;>first|assumption|omega)|((repeat' split)<;>omega)))|((first|with_reducible (first|((refine bA TT ?_);intro K hK)|((refine aW TT ?_);intro K hK)|((refine b8 TT [] MX (by kernel_rfl) (by kernel_rfl) ?_);intro K hK)|((refine aV TT [] MX (by kernel_rfl) (by kernel_rfl) ?_);intro K hK))|(with_reducible (first|refine aQ TT E (fun hb=>?_) (fun hb=>?_)|refine aS TT E (fun hb=>?_) (fun hb=>?_)|refine aP TT _ _ (fun hb=>?_) (fun hb=>?_)|refine aO TT _ _ (fun hb=>?_) (fun hb=>?_))<;>try simp only [hb]))<;>simp only [go_sem,↓reduceIte,Int.reduceBEq,Int.reduceBNe,a7,aA,aC,aD,aB,aE,a8,reduceCtorEq,Int.reduceToNat,Int.reduceNeg,Int.reduceEq,Int.reduceLE,Int.reduceLT])))
  simp only [List.drop_succ_cons,List.drop_zero]
  refine sem_call (cloneU ys hyne hyl') rfl rfl rfl ?_
  rintro r os t1 m1 ⟨rfl,rfl,rfl,rfl⟩ hm
  simp only [go_sem,↓reduceIte,a7,aA,aB,a8,reduceCtorEq]
  refine sem_cut TT 3 ?_
  intro K hK
  simp only [List.take_succ_cons,List.take_zero]
  simp only [go_sem,↓reduceIte,a7,aA,aB,a8,reduceCtorEq,hw]
  refine hK _ ?_
  simp only [List.drop_succ_cons,List.drop_zero]
  refine sem_del delF rfl rfl rfl (by rw [hyl];simpa using hk) (by simp) hold hE ?_
  refine sem_rvc TT ?_
  intro K hK
  simp only [go_sem,↓reduceIte,a7,aA,aB,a8,reduceCtorEq]
  (repeat' (first|with_reducible (first|refine bC ?_|refine b7 ?_|refine bB ?_|refine b9 ?_|refine bD ?_|refine aT ?_|refine b6 ?_|refine b4 ?_|refine aR ?_|refine aY ?_|refine aU ?_|refine b5 rfl ?_|(refine hK _ ?_;clear K hK)|refine aZ rfl ?_|refine aX rfl ?_|intro hfact)|(with_reducible refine And.intro ?_ ?_;focus (first|assumption|omega|(simp;done)|((repeat' apply And.intro)<;>first|assumption|omega)|((repeat' split)<;>omega)))|((first|with_reducible (first|((refine bA TT ?_);intro K hK)|((refine aW TT ?_);intro K hK)|((refine b8 TT [] MX (by kernel_rfl) (by kernel_rfl) ?_);intro K hK)|((refine aV TT [] MX (by kernel_rfl) (by kernel_rfl) ?_);intro K hK))|(with_reducible (first|refine aQ TT E (fun hb=>?_) (fun hb=>?_)|refine aS TT E (fun hb=>?_) (fun hb=>?_)|refine aP TT _ _ (fun hb=>?_) (fun hb=>?_)|refine aO TT _ _ (fun hb=>?_) (fun hb=>?_))<;>try simp only [hb]))<;>simp only [go_sem,↓reduceIte,Int.reduceBEq,Int.reduceBNe,a7,aA,aC,aD,aB,aE,a8,reduceCtorEq,Int.reduceToNat,Int.reduceNeg,Int.reduceEq,Int.reduceLE,Int.reduceLT])))
  refine g9 TT (m:=0) (toks:=[]) (by simp only [go_sem,↓reduceIte,a7,aA,aB,a8,reduceCtorEq,Try.results96];rfl) (by simp) (by intro t ht;simp at ht) rfl ⟨?_,rfl,rfl⟩
  have he : erLL (ys.eraseIdx k) = (l.eraseIdx k).map bW:=by
    rw [cY,map_erase]
    have h2:=cV l
    rw [cY,cY] at hys
    rw [cY] at h2
    rw [hys,h2,← map_erase]
  simp [resV,AV.erR,AV.er,DV.er,he]
theorem bZ (l : List Policy) (k : Nat) (hk : k < l.length) (hl : l.length ≤ 1000000) : Gives Try.prog 96 [LP l,I k] (LP (l.eraseIdx k)):=(withoutX l k hk hl).erR
end Go.Proofs.Ytfdjfiabdgmlhaa
