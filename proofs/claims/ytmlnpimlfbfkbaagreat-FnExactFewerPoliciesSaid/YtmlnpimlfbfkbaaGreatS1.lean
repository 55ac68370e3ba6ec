import Derived.Test.YtmlnpimlfbfkbaaGreatS0
import Derived.Test.YtmlnpimlfbfkbaaGreatS1a
open Nat renaming reduceEqDiff → a7,reduceLeDiff → a8,reduceAdd → a9,reduceLT → aA,reduceMul → aB,reduceSub → aC,reduceBEq → aD
namespace Go.Proofs.YtmlnpimlfbfkbaaGreat
open Go Go.AL
set_option linter.unusedSimpArgs false
set_option linter.unusedVariables false
theorem map_erase {α β : Type} (f : α → β) : ∀ (l : List α) (k : Nat),(l.eraseIdx k).map f = (l.map f).eraseIdx k
  | [],k=>rfl
  | x :: l,0=>rfl
  | x :: l,k + 1=>by simp [map_erase f l k]
theorem ev_i (k : Nat) (h : k < 9000000000000000000) : IntKind.i64.wrap ((k : Int) + 1) = (k : Int) + 1:=bT (by omega)
theorem withoutX (l : List Policy) (k : Nat) (hk : k < l.length) (hl : l.length ≤ 1000000) : AC Tryz.prog 84 [LP l,I k] [] fun _ v o t _=>v.erR = LP (l.eraseIdx k) ∧ o = [] ∧ t = []:=by
  refine ac_of_bodyP TT Tryz.call84 Tryz.func84 rfl (by simp [Tryz.ntmps84]) (by kernel_rfl) fun E ys hE hys hyl hold=>?_
  have hyne : ys ≠ []:=fun e=>by rw [e] at hyl;simp at hyl;omega
  have hyl' : ys.length ≤ 1000000:=by rw [hyl];simpa using hl
  have hw:=ev_i k (by omega)
  (repeat' (first|((refine awp_seqrS (id:=1) TT 1 ?_;intro K hK;simp only [List.take_succ_cons,List.take_zero];simp only [go_sem,↓reduceIte,a7,a9,aA,a8,reduceCtorEq]))|with_reducible (first|refine bB ?_|refine b6 ?_|refine b8 ?_|refine b9 ?_|refine bC ?_|refine aS ?_|refine b5 ?_|refine aY ?_|refine aQ ?_|refine aZ ?_|refine aT ?_|refine b4 rfl ?_|(refine hK _ ?_;clear K hK)|refine aW rfl ?_|refine aX rfl ?_|intro hfact)|(with_reducible refine And.intro ?_ ?_;focus (first|assumption|omega|(simp;done)|((repeat' apply And.intro)<;>first|assumption|omega)|((repeat' split)<;>omega)))|((first|with_reducible (first|((refine bA TT ?_);intro K hK)|((refine aV TT ?_);intro K hK)|((refine b7 TT [] MX (by kernel_rfl) (by kernel_rfl) ?_);intro K hK)|((refine aU TT [] MX (by kernel_rfl) (by kernel_rfl) ?_);intro K hK))|(with_reducible (first|refine aR TT E (fun hb=>?_) (fun hb=>?_)|refine aP TT E (fun hb=>?_) (fun hb=>?_)|refine aO TT _ _ (fun hb=>?_) (fun hb=>?_)|refine aN TT _ _ (fun hb=>?_) (fun hb=>?_))<;>try simp only [hb]))<;>simp only [go_sem,↓reduceIte,Int.reduceBEq,Int.reduceBNe,a7,a9,aB,aC,aA,aD,a8,reduceCtorEq,Int.reduceToNat,Int.reduceNeg,Int.reduceEq,Int.reduceLE,Int.reduceLT])))
  simp only [List.drop_succ_cons,List.drop_zero]
  refine sem_call (cloneU ys hyne hyl') rfl rfl rfl ?_
  rintro r os t1 m1 ⟨rfl,rfl,rfl,rfl⟩ hm
  simp only [go_sem,↓reduceIte,a7,a9,aA,a8,reduceCtorEq]
  refine sem_cut TT 3 ?_
  intro K hK
  simp only [List.take_succ_cons,List.take_zero]
  simp only [go_sem,↓reduceIte,a7,a9,aA,a8,reduceCtorEq,hw]
  refine hK _ ?_
  simp only [List.drop_succ_cons,List.drop_zero]
  refine sem_del delF rfl rfl rfl (by rw [hyl];simpa using hk) (by simp) hold hE ?_
  refine sem_rvc TT ?_
  intro K hK
  simp only [go_sem,↓reduceIte,a7,a9,aA,a8,reduceCtorEq]
  (repeat' (first|with_reducible (first|refine bB ?_|refine b6 ?_|refine b8 ?_|refine b9 ?_|refine bC ?_|refine aS ?_|refine b5 ?_|refine aY ?_|refine aQ ?_|refine aZ ?_|refine aT ?_|refine b4 rfl ?_|(refine hK _ ?_;clear K hK)|refine aW rfl ?_|refine aX rfl ?_|intro hfact)|(with_reducible refine And.intro ?_ ?_;focus (first|assumption|omega|(simp;done)|((repeat' apply And.intro)<;>first|assumption|omega)|((repeat' split)<;>omega)))|((first|with_reducible (first|((refine bA TT ?_);intro K hK)|((refine aV TT ?_);intro K hK)|((refine b7 TT [] MX (by kernel_rfl) (by kernel_rfl) ?_);intro K hK)|((refine aU TT [] MX (by kernel_rfl) (by kernel_rfl) ?_);intro K hK))|(with_reducible (first|refine aR TT E (fun hb=>?_) (fun hb=>?_)|refine aP TT E (fun hb=>?_) (fun hb=>?_)|refine aO TT _ _ (fun hb=>?_) (fun hb=>?_)|refine aN TT _ _ (fun hb=>?_) (fun hb=>?_))<;>try simp only [hb]))<;>simp only [go_sem,↓reduceIte,Int.reduceBEq,Int.reduceBNe,a7,a9,aB,aC,aA,aD,a8,reduceCtorEq,Int.reduceToNat,Int.reduceNeg,Int.reduceEq,Int.reduceLE,Int.reduceLT])))
  refine eS TT (m:=0) (toks:=[]) (by simp only [go_sem,↓reduceIte,a7,a9,aA,a8,reduceCtorEq,Tryz.results84];rfl) (by simp) (by intro t ht;simp at ht) rfl ⟨?_,rfl,rfl⟩
  have he : erLL (ys.eraseIdx k) = (l.eraseIdx k).map bL:=by
    rw [dG,map_erase]
    have h2:=cV l
    rw [dG,dG] at hys
    rw [dG] at h2
    rw [hys,h2,← map_erase]
  simp [resV,AV.erR,AV.er,DV.er,he]
theorem bK (l : List Policy) (k : Nat) (hk : k < l.length) (hl : l.length ≤ 1000000) : Gives Tryz.prog 84 [LP l,I k] (LP (l.eraseIdx k)):=(withoutX l k hk hl).erR
end Go.Proofs.YtmlnpimlfbfkbaaGreat
