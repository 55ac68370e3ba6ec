import Derived.Test.YtdfbaedkcfhdfaaU5
import Derived.Test.YtdfbaedkcfhdfaaSHL
import Derived.Test.YtdfbaedkcfhdfaaCoreE
import Derived.Deep.RegionLaw
import Derived.Below
import Derived.Lib.Walk
open Int renaming reduceToNat → aF,reduceBEq → aG,reduceBNe → aH,reduceNeg → aI,reduceEq → aJ,reduceLE → aK,reduceLT → aL
open Nat renaming reduceEqDiff → a7,reduceLeDiff → a8,reduceAdd → aA,reduceLT → aB,reduceMul → aC,reduceSub → aD,reduceBEq → aE
namespace Go.Proofs.Ytdfbaedkcfhdfaa
open Go Go.AL Go.RowKit
set_option linter.unusedSimpArgs false
set_option linter.unusedVariables false
theorem leaveCl (x g : Int) (bg : Nat) (W : World) (hc : W.cell? ⟨bg,0,none⟩ = some (.int .i64 g)) : Go.Proofs.FnGives Try.prog 55 #[.pointer (some ⟨bg,0,none⟩)] #[.int .i64 x] (.bool (x == g)) W:=by
  go_enter Try.func55,Try.ntmps55
  go_wp2
  go_ret
  exact ⟨rfl,0,rfl⟩
theorem delI : DelI Try.prog 54 55:=by
  refine ⟨Try.call54,fun w b cap bg gv zs arr T hb hsz hc hcm hne hg hz=>?_⟩
  have hbl:=(Array.getElem?_eq_some_iff.1 hb).1
  have hbg : bg < w.heap.size:=by
    simp only [World.cell?] at hg
    cases hh : w.heap[bg]? with
    | none=>rw [hh] at hg;cases hg
    | some o=>exact (Array.getElem?_eq_some_iff.1 hh).1
  have hcell : ∀ W : World,W.heap[bg]? = w.heap[bg]? → W.cell? ⟨bg,0,none⟩ = some (.int .i64 gv):=fun W h=>by
    simp only [World.cell?,h] at hg ⊢
    exact hg
  have hH : Go.Sort.Holds (Value.int .i64) w b 0 zs.toArray:=fun j hj=>by
    have hj' : j < zs.length:=by simpa using hj
    refine ⟨?_,?_⟩
    · have h1:=hz j zs[j] (by simp [hj'])
      have h2 : zs.toArray[j]! = zs[j]:=by rw [getElem!_pos zs.toArray j hj];simp
      simp only [World.cell?,hb,h2,Nat.zero_add]
      simpa using h1
    · simp [World.frozen?,hb]
  have hget : ∀ (n : Nat) (dk : Array Int) (os : Array Obj) (k : Nat),k < w.heap.size → (Go.Sort.grow (Go.Sort.putRow (Value.int .i64) (Go.Sort.ahead w n) b 0 dk) os).heap[k]? = if b = k then (w.heap[k]?).map (Go.Sort.onCells (Go.Sort.putCells (Value.int .i64) 0 dk)) else w.heap[k]?:=fun n dk os k hk=>by
    have hheap : (Go.Sort.grow (Go.Sort.putRow (Value.int .i64) (Go.Sort.ahead w n) b 0 dk) os).heap = (w.heap.modify b (Go.Sort.onCells (Go.Sort.putCells (Value.int .i64) 0 dk))) ++ os:=rfl
    rw [hheap,Array.getElem?_append_left (by simpa using hk),Array.getElem?_modify]
  have hP : Go.Proofs.PredAt Try.prog 55 #[.pointer (some ⟨bg,0,none⟩)] (Value.int .i64) (fun z=>z == gv) w:=fun W x hB=>leaveCl x gv bg W (hcell W (hB.block bg hbg))
  have hO : Go.Proofs.PredOver Try.prog 55 #[.pointer (some ⟨bg,0,none⟩)] (Value.int .i64) (fun z=>z == gv) b 0 zs.toArray.size w:=fun n os dk x hdk=>leaveCl x gv bg _ (hcell _ (by
    show (Go.Sort.grow (Go.Sort.putRow (Value.int .i64) (Go.Sort.ahead w n) b 0 dk) os).heap[bg]? = _
    rw [hget n dk os bg hbg,if_neg (fun e=>hne e.symm)]))
  have hmain:=Try.slices_DeleteFunc (Value.int .i64) (fun _=>rfl) (fun z=>z == gv) 55 #[.pointer (some ⟨bg,0,none⟩)] Try.call55 0 (fun w=>by have:=Try.zeroValue3;simp [this]) b 0 cap zs.toArray w hP hO hH (by simp;omega) (by simpa using hc)
  refine Calls.mono hmain fun e w' ⟨h1,q,h2⟩=>?_
  subst h2
  have hh : ∀ (n : Nat) (dk : Array Int),(Go.Sort.putRow (Value.int .i64) (Go.Sort.ahead w n) b 0 dk).heap = w.heap.modify b (Go.Sort.onCells (Go.Sort.putCells (Value.int .i64) 0 dk)):=fun n dk=>rfl
  generalize hdk : (List.filter (fun x=>!x == gv) zs.toArray.toList ++ List.replicate (zs.toArray.size - (List.filter (fun x=>!x == gv) zs.toArray.toList).length) (0 : Int)).toArray = dk
  have hdl : dk.size ≤ zs.length:=by
    rw [← hdk]
    have:=List.length_filter_le (fun x=>!x == gv) zs
    simp
    omega
  refine ⟨by simpa using h1,⟨Go.Sort.putCells (Value.int .i64) 0 dk arr,?_,by simp [Go.Sort.putCells],fun j z hz'=>?_⟩,⟨?_,fun k hk hn=>?_,rfl,rfl,rfl⟩⟩
  · rw [hh,Array.getElem?_modify,if_pos rfl,hb];rfl
  · have hj:=(List.getElem?_eq_some_iff.1 hz').1
    have hjd : dk[j]? = some z:=by
      rw [← hdk]
      simp only [List.getElem?_toArray]
      rw [List.getElem?_append_left (by simpa using hj)]
      simpa using hz'
    have hjs:=(Array.getElem?_eq_some_iff.1 hjd).1
    have h3 : dk[j]! = z:=by rw [getElem!_pos dk j hjs];exact (Array.getElem?_eq_some_iff.1 hjd).2
    have hj2 : j < arr.size:=by omega
    simp [Go.Sort.putCells,Array.getElem?_mapIdx,hj2,hjs]
    exact (Array.getElem?_eq_some_iff.1 hjd).2
  · rw [hh];simp
  · rw [hh,Array.getElem?_modify,if_neg (fun e=>hn (by simp [e]))]
def outG (g : Int) (l : List Int) : List Int:=l.filter fun z=>!(z == g)
def leaveB (w : List Thing) (t g : Int) : Option (List Thing) :=
  if worldB w && inB t 0 ((w.length : Int) - 1) then
    match w[t.toNat]? with
    | some x=>if g ∈ x.groups then some (w.set t.toNat ⟨outG g x.groups,x.fields⟩) else none
    | none=>none
  else none
theorem outG_cut {l : List Int} {g : Int} {k : Nat} (hp : l.Pairwise (· < ·)) (hk : l[k]? = some g) : l.take k ++ l.drop (k + 1) = outG g l:=by
  induction l generalizing k with
  | nil=>simp at hk
  | cons x l ih =>
    rw [List.pairwise_cons] at hp
    cases k with
    | zero =>
      simp at hk
      subst hk
      unfold outG
      rw [List.filter_cons,if_neg (by simp),List.filter_eq_self.2 (fun z hz=>by have:=hp.1 z hz;simp;omega)]
      rfl
    | succ k =>
      have hm : g ∈ l:=List.mem_of_getElem? (by simpa using hk : l[k]? = some g)
      have:=hp.1 g hm
      have h9:=ih hp.2 (by simpa using hk)
      unfold outG at h9 ⊢
      rw [List.filter_cons,if_pos (by simp;omega),← h9]
      rfl
set_option maxHeartbeats 4000000 in
theorem leaveO (w : List Thing) (t g : Int) : AC Try.prog 12 [LT w,I t,I g] [] (OwnR (joinA (leaveB w t g))):=by
  refine bE TT Try.call12 Try.func12 rfl (by simp [Try.ntmps12]) (by kernel_rfl) fun E hk=>?_
  cases h0 : worldB w
  · (repeat' (first|(refine d9 6 2 rfl ?_)|with_reducible (first|refine bC ?_|refine b6 ?_|refine b9 ?_|refine bA ?_|refine bD ?_|refine aT ?_|refine b8 ?_|refine aY ?_|refine aS ?_|refine b5 ?_|refine aU ?_|refine b4 rfl ?_|(refine hK _ ?_;clear K hK)|refine aZ rfl ?_|refine aX rfl ?_|intro hfact)|(with_reducible refine And.intro ?_ ?_;focus (first|assumption|omega|(simp;done)|((repeat' apply And.intro)<;>first|assumption|omega)|((repeat' split)<;>omega)))|((first|with_reducible (first|((refine bB TT ?_);intro K hK)|((refine aW TT ?_);intro K hK)|((refine b7 TT [] MX (by kernel_rfl) (by kernel_rfl) ?_);intro K hK)|((refine aV TT [] MX (by kernel_rfl) (by kernel_rfl) ?_);intro K hK))|(with_reducible (first|refine aR TT E (fun hb=>?_) (fun hb=>?_)|refine aQ TT E (fun hb=>?_) (fun hb=>?_)|refine aO TT _ _ (fun hb=>?_) (fun hb=>?_)|refine aP TT _ _ (fun hb=>?_) (fun hb=>?_))<;>try simp only [hb])|((first|refine aN TT E (bP _) rfl rfl ?_|refine aM TT _ _ (bP _) rfl rfl ?_);intro m hm;try dsimp only at hm)|((first|refine aN TT E (bH _ _) rfl rfl ?_|refine aM TT _ _ (bH _ _) rfl rfl ?_);intro m hm;try dsimp only at hm)|((first|refine aN TT E (contI _ _) rfl rfl ?_|refine aM TT _ _ (contI _ _) rfl rfl ?_);intro m hm;try dsimp only at hm))<;>simp only [go_sem,↓reduceIte,aG,aH,a7,aA,aC,aD,aB,aE,a8,reduceCtorEq,aF,aI,aJ,aK,aL,h0])))
    refine cU TT (m:=0) (toks:=[]) (by simp only [go_sem,↓reduceIte,a7,aA,aB,a8,reduceCtorEq,Try.results12];rfl) (by simp) (by intro t ht;simp at ht) rfl ⟨rfl,?_,(by intro x hx;simp at hx),?_,(by first|exact Nat.le_refl _|(dsimp only;omega))⟩
    · exact show ownD _ _ by simp [ownD]
    · simp [resV,joinA,leaveB,h0,AV.erR,AV.er,DV.er,erLL]
  have hw7:=dR h0
  cases h1 : inB t 0 ((w.length : Int) - 1)
  · (repeat' (first|(refine d9 6 2 rfl ?_)|with_reducible (first|refine bC ?_|refine b6 ?_|refine b9 ?_|refine bA ?_|refine bD ?_|refine aT ?_|refine b8 ?_|refine aY ?_|refine aS ?_|refine b5 ?_|refine aU ?_|refine b4 rfl ?_|(refine hK _ ?_;clear K hK)|refine aZ rfl ?_|refine aX rfl ?_|intro hfact)|(with_reducible refine And.intro ?_ ?_;focus (first|assumption|omega|(simp;done)|((repeat' apply And.intro)<;>first|assumption|omega)|((repeat' split)<;>omega)))|((first|with_reducible (first|((refine bB TT ?_);intro K hK)|((refine aW TT ?_);intro K hK)|((refine b7 TT [] MX (by kernel_rfl) (by kernel_rfl) ?_);intro K hK)|((refine aV TT [] MX (by kernel_rfl) (by kernel_rfl) ?_);intro K hK))|(with_reducible (first|refine aR TT E (fun hb=>?_) (fun hb=>?_)|refine aQ TT E (fun hb=>?_) (fun hb=>?_)|refine aO TT _ _ (fun hb=>?_) (fun hb=>?_)|refine aP TT _ _ (fun hb=>?_) (fun hb=>?_))<;>try simp only [hb])|((first|refine aN TT E (bP _) rfl rfl ?_|refine aM TT _ _ (bP _) rfl rfl ?_);intro m hm;try dsimp only at hm)|((first|refine aN TT E (bH _ _) rfl rfl ?_|refine aM TT _ _ (bH _ _) rfl rfl ?_);intro m hm;try dsimp only at hm)|((first|refine aN TT E (contI _ _) rfl rfl ?_|refine aM TT _ _ (contI _ _) rfl rfl ?_);intro m hm;try dsimp only at hm))<;>simp only [go_sem,↓reduceIte,aG,aH,a7,aA,aC,aD,aB,aE,a8,reduceCtorEq,aF,aI,aJ,aK,aL,h0,h1])))
    refine cU TT (m:=0) (toks:=[]) (by simp only [go_sem,↓reduceIte,a7,aA,aB,a8,reduceCtorEq,Try.results12];rfl) (by simp) (by intro t ht;simp at ht) rfl ⟨rfl,?_,(by intro x hx;simp at hx),?_,(by first|exact Nat.le_refl _|(dsimp only;omega))⟩
    · exact show ownD _ _ by simp [ownD]
    · simp [resV,joinA,leaveB,h1,AV.erR,AV.er,DV.er,erLL]
  have h1':=dP.1 h1
  obtain ⟨tn,rfl⟩ : ∃ tn : Nat,t = tn:=⟨t.toNat,by omega⟩
  have htl : tn < w.length:=by omega
  obtain ⟨x,hx⟩ : ∃ x,w[tn]? = some x:=⟨w[tn],by simp [htl]⟩
  have hT : At w w.length tn x (w.drop (tn + 1)):=⟨rfl,htl,by rw [List.drop_eq_getElem_cons htl];congr 1;exact Option.some.inj (by rw [← hx];simp [htl]),by omega⟩
  have hsm:=smallW_of h0
  have hxs:=hsm.2 x hT.mem
  cases h3 : decide (g ∈ x.groups)
  · have h3' : g ∉ x.groups:=by simpa using h3
    (repeat' (first|(refine d9 6 2 rfl ?_)|with_reducible (first|refine bC ?_|refine b6 ?_|refine b9 ?_|refine bA ?_|refine bD ?_|refine aT ?_|refine b8 ?_|refine aY ?_|refine aS ?_|refine b5 ?_|refine aU ?_|refine b4 rfl ?_|(refine hK _ ?_;clear K hK)|refine aZ rfl ?_|refine aX rfl ?_|intro hfact)|(with_reducible refine And.intro ?_ ?_;focus (first|assumption|omega|(simp;done)|((repeat' apply And.intro)<;>first|assumption|omega)|((repeat' split)<;>omega)))|((first|with_reducible (first|((refine bB TT ?_);intro K hK)|((refine aW TT ?_);intro K hK)|((refine b7 TT [] MX (by kernel_rfl) (by kernel_rfl) ?_);intro K hK)|((refine aV TT [] MX (by kernel_rfl) (by kernel_rfl) ?_);intro K hK))|(with_reducible (first|refine aR TT E (fun hb=>?_) (fun hb=>?_)|refine aQ TT E (fun hb=>?_) (fun hb=>?_)|refine aO TT _ _ (fun hb=>?_) (fun hb=>?_)|refine aP TT _ _ (fun hb=>?_) (fun hb=>?_))<;>try simp only [hb])|((first|refine aN TT E (bP _) rfl rfl ?_|refine aM TT _ _ (bP _) rfl rfl ?_);intro m hm;try dsimp only at hm)|((first|refine aN TT E (bH _ _) rfl rfl ?_|refine aM TT _ _ (bH _ _) rfl rfl ?_);intro m hm;try dsimp only at hm)|((first|refine aN TT E (contI _ _) rfl rfl ?_|refine aM TT _ _ (contI _ _) rfl rfl ?_);intro m hm;try dsimp only at hm))<;>simp only [go_sem,↓reduceIte,aG,aH,a7,aA,aC,aD,aB,aE,a8,reduceCtorEq,aF,aI,aJ,aK,aL,h0,h1,hT.g,encT,h3])))
    refine cU TT (m:=0) (toks:=[]) (by simp only [go_sem,↓reduceIte,a7,aA,aB,a8,reduceCtorEq,Try.results12];rfl) (by simp) (by intro t ht;simp at ht) rfl ⟨rfl,?_,(by intro x hx;simp at hx),?_,(by first|exact Nat.le_refl _|(dsimp only;omega))⟩
    · exact show ownD _ _ by simp [ownD]
    · simp [resV,joinA,leaveB,hx,h3',AV.erR,AV.er,DV.er,erLL]
  have h3' : g ∈ x.groups:=by simpa using h3
  have hz0 : 0 < x.groups.length:=List.length_pos_of_mem h3'
  (repeat' (first|with_reducible (first|refine bC ?_|refine b6 ?_|refine b9 ?_|refine bA ?_|refine bD ?_|refine aT ?_|refine b8 ?_|refine aY ?_|refine aS ?_|refine b5 ?_|refine aU ?_|refine b4 rfl ?_|(refine hK _ ?_;clear K hK)|refine aZ rfl ?_|refine aX rfl ?_|intro hfact)|(with_reducible refine And.intro ?_ ?_;focus (first|assumption|omega|(simp;done)|((repeat' apply And.intro)<;>first|assumption|omega)|((repeat' split)<;>omega)))|((first|with_reducible (first|((refine bB TT ?_);intro K hK)|((refine aW TT ?_);intro K hK)|((refine b7 TT [] MX (by kernel_rfl) (by kernel_rfl) ?_);intro K hK)|((refine aV TT [] MX (by kernel_rfl) (by kernel_rfl) ?_);intro K hK))|(with_reducible (first|refine aR TT E (fun hb=>?_) (fun hb=>?_)|refine aQ TT E (fun hb=>?_) (fun hb=>?_)|refine aO TT _ _ (fun hb=>?_) (fun hb=>?_)|refine aP TT _ _ (fun hb=>?_) (fun hb=>?_))<;>try simp only [hb])|((first|refine aN TT E (bP _) rfl rfl ?_|refine aM TT _ _ (bP _) rfl rfl ?_);intro m hm;try dsimp only at hm)|((first|refine aN TT E (bH _ _) rfl rfl ?_|refine aM TT _ _ (bH _ _) rfl rfl ?_);intro m hm;try dsimp only at hm)|((first|refine aN TT E (contI _ _) rfl rfl ?_|refine aM TT _ _ (contI _ _) rfl rfl ?_);intro m hm;try dsimp only at hm))<;>simp only [go_sem,↓reduceIte,aG,aH,a7,aA,aC,aD,aB,aE,a8,reduceCtorEq,aF,aI,aJ,aK,aL,h0,h1,hT.g,encT,h3])))
  refine dF TT E [] (cwO w hsm) rfl rfl rfl (by decide) ?_
  rintro r os t1 m1 ⟨ps,own,rfl,rfl,rfl,hpl,hnd,hbd,hsw,hno,hnm⟩
  dsimp only at hbd hnm
  obtain ⟨u,rfl,hu1,hu2⟩ : ∃ u,own = .tok u ∧ m ≤ u ∧ u < m1:=by
    rcases hsw with ⟨_,hn⟩|⟨u,h1,h2,h3⟩
    · rw [hn,List.length_nil] at hpl;omega
    · exact ⟨u,h1,h2,h3⟩
  obtain ⟨p,hp⟩ : ∃ p,ps[tn]? = some p:=⟨ps[tn]'(by omega),by simp⟩
  have hXg:=WX_get hx hp
  have hpk:=cG hXg
  have hXlen : tn < (WX w ps).length:=by rw [WX_len _ _ hpl];exact htl
  obtain ⟨hpn,hpm0⟩:=holeT_ne hnd hp
  have hpm : p.1 ∈ u :: tksW ps:=List.mem_cons_of_mem _ hpm0
  have hup : u ∉ tksW ps:=hno u (by simp [tkOf])
  have hpb:=hbd p.1 hpm0
  simp only [go_sem,↓reduceIte,a7,aA,aB,a8,reduceCtorEq]
  (repeat' (first|((refine awp_seqrS (id:=4) TT 8 ?_;intro K hK;simp only [List.take_succ_cons,List.take_zero];simp only [go_sem,↓reduceIte,a7,aA,aB,a8,reduceCtorEq,hpk]))|with_reducible (first|refine bC ?_|refine b6 ?_|refine b9 ?_|refine bA ?_|refine bD ?_|refine aT ?_|refine b8 ?_|refine aY ?_|refine aS ?_|refine b5 ?_|refine aU ?_|refine b4 rfl ?_|(refine hK _ ?_;clear K hK)|refine aZ rfl ?_|refine aX rfl ?_|intro hfact)|(with_reducible refine And.intro ?_ ?_;focus (first|assumption|omega|(simp;done)|((repeat' apply And.intro)<;>first|assumption|omega)|((repeat' split)<;>omega)))|((first|with_reducible (first|((refine bB TT ?_);intro K hK)|((refine aW TT ?_);intro K hK)|((refine b7 TT [] MX (by kernel_rfl) (by kernel_rfl) ?_);intro K hK)|((refine aV TT [] MX (by kernel_rfl) (by kernel_rfl) ?_);intro K hK))|(with_reducible (first|refine aR TT E (fun hb=>?_) (fun hb=>?_)|refine aQ TT E (fun hb=>?_) (fun hb=>?_)|refine aO TT _ _ (fun hb=>?_) (fun hb=>?_)|refine aP TT _ _ (fun hb=>?_) (fun hb=>?_))<;>try simp only [hb])|((first|refine aN TT E (bP _) rfl rfl ?_|refine aM TT _ _ (bP _) rfl rfl ?_);intro m hm;try dsimp only at hm)|((first|refine aN TT E (bH _ _) rfl rfl ?_|refine aM TT _ _ (bH _ _) rfl rfl ?_);intro m hm;try dsimp only at hm)|((first|refine aN TT E (contI _ _) rfl rfl ?_|refine aM TT _ _ (contI _ _) rfl rfl ?_);intro m hm;try dsimp only at hm))<;>simp only [go_sem,↓reduceIte,aG,aH,a7,aA,aC,aD,aB,aE,a8,reduceCtorEq,aF,aI,aJ,aK,aL,hT.g,encT,hpk])))
  simp only [List.drop_succ_cons,List.drop_zero]
  have hm1n : m1 ∉ tksW ps:=fun h=>by have:=(hbd m1 h).2;omega
  have hset:=WX_set (outG g x.groups) m1 hx hp
  have hl2 : (w.set tn ⟨outG g x.groups,x.fields⟩).length = (ps.set tn (m1,p.2)).length:=by simp [hpl]
  have hnd2:=tksW_nd m1 hp hnd hm1n
  refine sem_delStore TT (r:=8) (j:=0) (us0:=holeT ps tn) (us1:=tksW (ps.set tn (m1,p.2))) [] delI rfl rfl rfl rfl rfl rfl hXg rfl (by decide) hz0 ?_ hpm ?_ (WX_hole hpl hnd hx hp) ?_ ?_ ?_ hk rfl rfl rfl rfl rfl rfl (by decide) rfl rfl rfl rfl rfl rfl ?_
  · simp
  · exact fun e=>hup (e ▸ hpm0)
  · exact fun z hz=>⟨List.mem_cons_of_mem _ (cD hz),fun e=>hpn (e ▸ hz)⟩
  · show ownLL ((WX w ps).set tn [.sl 1 ((outG g x.groups).map encI) (.tok m1),.sl 3 (x.fields.map encF) (.tok p.2)]) _
    rw [hset]
    exact WX_own _ _ hl2 hnd2
  · intro z hz
    rcases dE m1 hp hz with rfl|hz
    · exact ⟨.inl rfl,by omega⟩
    · have hz1:=cD hz
      exact ⟨.inr ⟨List.mem_cons_of_mem _ hz1,fun e=>hpn (e ▸ hz)⟩,fun e=>hup (e ▸ hz1)⟩
  refine sem_nil ?_
  have hN : (encN : Int → List DV) = encI:=rfl
  have hO : (x.groups.filter fun z=>!(z == g)) = outG g x.groups:=rfl
  simp only [List.set_cons_zero,hO,hN,hset]
  (repeat' (first|with_reducible (first|refine bC ?_|refine b6 ?_|refine b9 ?_|refine bA ?_|refine bD ?_|refine aT ?_|refine b8 ?_|refine aY ?_|refine aS ?_|refine b5 ?_|refine aU ?_|refine b4 rfl ?_|(refine hK _ ?_;clear K hK)|refine aZ rfl ?_|refine aX rfl ?_|intro hfact)|(with_reducible refine And.intro ?_ ?_;focus (first|assumption|omega|(simp;done)|((repeat' apply And.intro)<;>first|assumption|omega)|((repeat' split)<;>omega)))|((first|with_reducible (first|((refine bB TT ?_);intro K hK)|((refine aW TT ?_);intro K hK)|((refine b7 TT [] MX (by kernel_rfl) (by kernel_rfl) ?_);intro K hK)|((refine aV TT [] MX (by kernel_rfl) (by kernel_rfl) ?_);intro K hK))|(with_reducible (first|refine aR TT E (fun hb=>?_) (fun hb=>?_)|refine aQ TT E (fun hb=>?_) (fun hb=>?_)|refine aO TT _ _ (fun hb=>?_) (fun hb=>?_)|refine aP TT _ _ (fun hb=>?_) (fun hb=>?_))<;>try simp only [hb])|((first|refine aN TT E (bP _) rfl rfl ?_|refine aM TT _ _ (bP _) rfl rfl ?_);intro m hm;try dsimp only at hm)|((first|refine aN TT E (bH _ _) rfl rfl ?_|refine aM TT _ _ (bH _ _) rfl rfl ?_);intro m hm;try dsimp only at hm)|((first|refine aN TT E (contI _ _) rfl rfl ?_|refine aM TT _ _ (contI _ _) rfl rfl ?_);intro m hm;try dsimp only at hm))<;>simp only [go_sem,↓reduceIte,aG,aH,a7,aA,aC,aD,aB,aE,a8,reduceCtorEq,aF,aI,aJ,aK,aL])))
  refine cU TT (m:=0) (toks:=(m1 + 1) :: tksW (ps.set tn (m1,p.2))) (by simp only [go_sem,↓reduceIte,a7,aA,aB,a8,reduceCtorEq,Try.results12];rfl) (by simp) (by intro z hz;exact hz) rfl ⟨rfl,?_,?_,?_,?_⟩
  · refine show ownD _ _ from d8 (fun h=>?_) (WX_own _ _ hl2 hnd2)
    rcases dE m1 hp h with h|h
    · omega
    · have:=(hbd _ (cD h)).2;omega
  · intro z hz
    rcases List.mem_cons.1 hz with rfl|hz
    · dsimp only;omega
    · rcases dE m1 hp hz with rfl|hz
      · dsimp only;omega
      · have:=hbd z (cD hz);dsimp only;omega
  · have her:=WX_er _ _ hl2
    simp [resV,joinA,leaveB,h0,h1,hx,h3',AV.erR,AV.er,DV.er,her,List.map_set]
  · dsimp only;omega
end Go.Proofs.Ytdfbaedkcfhdfaa
