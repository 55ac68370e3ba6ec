import Derived.Test.YtfdjfiabdgmlhaaZ1
namespace Go.Proofs.Ytfdjfiabdgmlhaa
open Go Go.AL
set_option linter.unusedSimpArgs false
set_option linter.unusedVariables false
theorem polsGoX_iff : ∀ (l pre : List Policy),polsGo pre l = true ↔ (∀ p ∈ l,e5 p = true ∧ p.who ≠ -2) ∧ (∀ p ∈ l,∀ y ∈ pre,y.name ≠ p.name) ∧ (l.map Policy.name).Pairwise (· ≠ ·)
  | [],pre=>by simp [polsGo]
  | x :: l,pre=>by
    simp only [polsGo,Bool.and_eq_true,polsGoX_iff l (pre ++ [x]),List.map_cons,List.pairwise_cons,List.mem_cons,List.mem_append,forall_eq_or_imp,Bool.not_eq_true',beq_eq_false_iff_ne]
    constructor
    · rintro ⟨⟨⟨h1,h2⟩,h3⟩,h4,h5,h6⟩
      refine ⟨⟨⟨h1,h2⟩,h4⟩,⟨fun y hy=>?_,fun p hp y hy=>h5 p hp y (.inl hy)⟩,fun a ha=>?_,h6⟩
      · have:=List.any_eq_false.1 h3 y hy
        simpa using this
      · obtain ⟨p,hp,rfl⟩:=List.mem_map.1 ha
        exact h5 p hp x (.inr (by simp))
    · rintro ⟨⟨⟨h1,h2⟩,h4⟩,⟨h7,h8⟩,h9,h6⟩
      refine ⟨⟨⟨h1,h2⟩,?_⟩,h4,fun p hp y hy=>?_,h6⟩
      · rw [List.any_eq_false]
        intro y hy
        simpa using h7 y hy
      · rcases hy with hy|hy
        · exact h8 p hp y hy
        · simp at hy
          subst hy
          exact h9 p.name (List.mem_map.2 ⟨p,hp,rfl⟩)
theorem polsBX_iff (l : List Policy) : polsB l = true ↔ ((∀ p ∈ l,e5 p = true ∧ p.who ≠ -2) ∧ (l.map Policy.name).Pairwise (· ≠ ·)) ∧ l.length ≤ 6:=by
  simp only [polsB,Bool.and_eq_true,polsGoX_iff,decide_eq_true_eq,List.not_mem_nil,false_imp_iff,implies_true,true_and]
  constructor
  · rintro ⟨h1,h2⟩;exact ⟨h1,by omega⟩
  · rintro ⟨h1,h2⟩;exact ⟨h1,by omega⟩
theorem polsB_sub {l m : List Policy} (h : m.Sublist l) (hl : polsB l = true) : polsB m = true:=by
  rw [polsBX_iff] at hl ⊢
  exact ⟨⟨fun p hp=>hl.1.1 p (h.subset hp),(List.Pairwise.sublist (h.map _) hl.1.2)⟩,Nat.le_trans h.length_le hl.2⟩
theorem smallP_sub {l m : List Policy} (h : m.Sublist l) (hl : smallP l) : smallP m:=fun p hp=>hl p (h.subset hp)
def shadB (w : List Thing) (fs : List Field) (l : List Policy) (k : Nat) : Bool:=!(diffB w fs l (l.eraseIdx k)).isSome
def shL (w : List Thing) (fs : List Field) (l : List Policy) : Nat → List Int
  | 0=>[]
  | k + 1=>shL w fs l k ++ if shadB w fs l k then [(k : Int)] else []
def shB (w : List Thing) (fs : List Field) (l : List Policy) : List Int:=if okA w fs l l then shL w fs l l.length else []
theorem shL_len (w : List Thing) (fs : List Field) (l : List Policy) : ∀ k,(shL w fs l k).length ≤ k
  | 0=>by simp [shL]
  | k + 1=>by have:=shL_len w fs l k;rw [shL,List.length_append];split<;>simp<;>omega
def fewG (w : List Thing) (fs : List Field) : Nat → List Policy → Nat → List Policy
  | 0,l,_=>l
  | m + 1,l,k=>if k < l.length then (if shadB w fs l k then fewG w fs m (l.eraseIdx k) k else fewG w fs m l (k + 1)) else l
def fewB (w : List Thing) (fs : List Field) (l : List Policy) : List Policy:=if okA w fs l l then fewG w fs l.length l 0 else []
theorem fewG_sub (w : List Thing) (fs : List Field) : ∀ (m : Nat) (l : List Policy) (k : Nat),(fewG w fs m l k).Sublist l
  | 0,l,_=>List.Sublist.refl _
  | m + 1,l,k=>by
    rw [fewG]
    split
    · split
      · exact (fewG_sub w fs m _ k).trans (List.eraseIdx_sublist _ _)
      · exact fewG_sub w fs m l (k + 1)
    · exact List.Sublist.refl _
theorem fewG_end (w : List Thing) (fs : List Field) {l : List Policy} {k : Nat} (h : ¬ k < l.length) : ∀ m,fewG w fs m l k = l
  | 0=>rfl
  | m + 1=>by rw [fewG,if_neg h]
theorem okA_of {w : List Thing} {fs : List Field} {l a b : List Policy} (h : okA w fs l l = true) (ha : a.Sublist l) (hb : b.Sublist l) : okA w fs a b = true:=by
  simp only [okA,Bool.and_eq_true] at h ⊢
  exact ⟨⟨h.1.1,polsB_sub ha h.2⟩,polsB_sub hb h.2⟩
theorem fdB_erase {w : List Thing} {fs : List Field} {l : List Policy} (h : okA w fs l l = true) (k : Nat) : fdB w fs l (l.eraseIdx k) = diffB w fs l (l.eraseIdx k):=by
  rw [fdB,if_pos (okA_of h (List.Sublist.refl _) (List.eraseIdx_sublist _ _))]
theorem erase_eq (l : List Policy) (k : Nat) : l.take k ++ l.drop (k + 1) = l.eraseIdx k:=(List.eraseIdx_eq_take_drop_succ _ _).symm
end Go.Proofs.Ytfdjfiabdgmlhaa
