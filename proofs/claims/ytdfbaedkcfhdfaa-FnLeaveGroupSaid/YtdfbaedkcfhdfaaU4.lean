import Derived.Test.YtdfbaedkcfhdfaaU2
import Derived.Test.YtdfbaedkcfhdfaaSHD
import Derived.Test.YtdfbaedkcfhdfaaCoreE
import Derived.Test.YtdfbaedkcfhdfaaCoreE
open Int renaming reduceToNat → aF,reduceBEq → aG,reduceBNe → aH,reduceNeg → aI,reduceEq → aJ,reduceLE → aK,reduceLT → aL
open Nat renaming reduceEqDiff → a7,reduceLeDiff → a8,reduceAdd → aA,reduceLT → aB,reduceMul → aC,reduceSub → aD,reduceBEq → aE
namespace Go.Proofs.Ytdfbaedkcfhdfaa
open Go Go.AL
set_option linter.unusedSimpArgs false
set_option linter.unusedVariables false
def sortF (l : List Int) : List Int:=l.mergeSort fun x y=>decide (x ≤ y)
theorem sortF_len (l : List Int) : (sortF l).length = l.length:=List.length_mergeSort l
theorem sortI : InI Try.prog 64 sortF:=by
  refine ⟨Try.call64,sortF_len,fun w b cap zs arr T hb hsz hc hl hz=>?_⟩
  have hbl:=(Array.getElem?_eq_some_iff.1 hb).1
  have hH : Go.Sort.Holds (Value.int .i64) w b 0 zs.toArray:=fun j hj=>by
    have hj' : j < zs.length:=by simpa using hj
    refine ⟨?_,?_⟩
    · have h1:=hz j zs[j] (by simp [hj'])
      have h2 : zs.toArray[j]! = zs[j]:=by rw [getElem!_pos zs.toArray j hj];simp
      simp only [World.cell?,hb,h2,Nat.zero_add]
      simpa using h1
    · simp [World.frozen?,hb]
  refine Calls.mono (Try.slices_Sort_int b 0 cap zs w hH hbl hl) fun e w' ⟨h1,n,os,h2⟩=>⟨h1,?_⟩
  subst h2
  have hheap : (Go.Sort.grow (Go.Sort.putRow (Value.int .i64) (Go.Sort.ahead w n) b 0 (sortF zs).toArray) os).heap = (w.heap.modify b (Go.Sort.onCells (Go.Sort.putCells (Value.int .i64) 0 (sortF zs).toArray))) ++ os:=rfl
  have hget : ∀ k,k < w.heap.size → (Go.Sort.grow (Go.Sort.putRow (Value.int .i64) (Go.Sort.ahead w n) b 0 (sortF zs).toArray) os).heap[k]? = if b = k then (w.heap[k]?).map (Go.Sort.onCells (Go.Sort.putCells (Value.int .i64) 0 (sortF zs).toArray)) else w.heap[k]?:=fun k hk=>by
    rw [hheap,Array.getElem?_append_left (by simpa using hk),Array.getElem?_modify]
  refine ⟨⟨Go.Sort.putCells (Value.int .i64) 0 (sortF zs).toArray arr,?_,?_,fun j z hz'=>?_⟩,?_,fun k hk hn=>?_,rfl,rfl,rfl⟩
  · show (Go.Sort.grow (Go.Sort.putRow (Value.int .i64) (Go.Sort.ahead w n) b 0 (sortF zs).toArray) os).heap[b]? = _
    rw [hget b hbl,if_pos rfl,hb];rfl
  · simp [Go.Sort.putCells]
  · have hj:=(List.getElem?_eq_some_iff.1 hz').1
    have hj2 : j < arr.size:=by rw [sortF_len] at hj;omega
    have h3 : (sortF zs)[j]! = z:=by rw [getElem!_pos (sortF zs) j hj];exact (List.getElem?_eq_some_iff.1 hz').2
    simp [Go.Sort.putCells,Array.getElem?_mapIdx,hj2,hj]
    exact (List.getElem?_eq_some_iff.1 hz').2
  · show w.heap.size ≤ (Go.Sort.grow (Go.Sort.putRow (Value.int .i64) (Go.Sort.ahead w n) b 0 (sortF zs).toArray) os).heap.size
    rw [hheap];simp
  · show (Go.Sort.grow (Go.Sort.putRow (Value.int .i64) (Go.Sort.ahead w n) b 0 (sortF zs).toArray) os).heap[k]? = _
    rw [hget k hk,if_neg (fun e=>hn (by simp [e]))]
theorem clnI (l : List Int) (Hl : l.length ≤ 1000000) : AC Try.prog 108 [LI l] [] fun n v o t m=>v = LI l (.tok n) ∧ o = [] ∧ t = [n] ∧ m = n + 1:=by
  refine bE TT Try.call108 Try.func108 rfl (by simp [Try.ntmps108]) (by kernel_rfl) fun E hk=>?_
  (repeat' (first|with_reducible (first|refine bC ?_|refine b6 ?_|refine b9 ?_|refine bA ?_|refine bD ?_|refine aT ?_|refine b8 ?_|refine aY ?_|refine aS ?_|refine b5 ?_|refine aU ?_|refine b4 rfl ?_|(refine hK _ ?_;clear K hK)|refine aZ rfl ?_|refine aX rfl ?_|intro hfact)|(with_reducible refine And.intro ?_ ?_;focus (first|assumption|omega|(simp;done)|((repeat' apply And.intro)<;>first|assumption|omega)|((repeat' split)<;>omega)))|((first|with_reducible (first|((refine bB TT ?_);intro K hK)|((refine aW TT ?_);intro K hK)|((refine b7 TT [] MX (by kernel_rfl) (by kernel_rfl) ?_);intro K hK)|((refine aV TT [] MX (by kernel_rfl) (by kernel_rfl) ?_);intro K hK))|(with_reducible (first|refine aR TT E (fun hb=>?_) (fun hb=>?_)|refine aQ TT E (fun hb=>?_) (fun hb=>?_)|refine aO TT _ _ (fun hb=>?_) (fun hb=>?_)|refine aP TT _ _ (fun hb=>?_) (fun hb=>?_))<;>try simp only [hb]))<;>simp only [go_sem,↓reduceIte,aG,aH,a7,aA,aC,aD,aB,aE,a8,reduceCtorEq,aF,aI,aJ,aK,aL])))
  refine cU TT (m:=0) (toks:=[E.nt0]) (by simp only [go_sem,↓reduceIte,a7,aA,aB,a8,reduceCtorEq,Try.results108];rfl) (by simp) (by simp) rfl ⟨rfl,rfl,rfl,rfl⟩
theorem clnF (l : List Field) (Hl : l.length ≤ 1000000) : AC Try.prog 109 [LF l] [] fun n v o t m=>v = LF l (.tok n) ∧ o = [] ∧ t = [n] ∧ m = n + 1:=by
  refine bE TT Try.call109 Try.func109 rfl (by simp [Try.ntmps109]) (by kernel_rfl) fun E hk=>?_
  (repeat' (first|with_reducible (first|refine bC ?_|refine b6 ?_|refine b9 ?_|refine bA ?_|refine bD ?_|refine aT ?_|refine b8 ?_|refine aY ?_|refine aS ?_|refine b5 ?_|refine aU ?_|refine b4 rfl ?_|(refine hK _ ?_;clear K hK)|refine aZ rfl ?_|refine aX rfl ?_|intro hfact)|(with_reducible refine And.intro ?_ ?_;focus (first|assumption|omega|(simp;done)|((repeat' apply And.intro)<;>first|assumption|omega)|((repeat' split)<;>omega)))|((first|with_reducible (first|((refine bB TT ?_);intro K hK)|((refine aW TT ?_);intro K hK)|((refine b7 TT [] MX (by kernel_rfl) (by kernel_rfl) ?_);intro K hK)|((refine aV TT [] MX (by kernel_rfl) (by kernel_rfl) ?_);intro K hK))|(with_reducible (first|refine aR TT E (fun hb=>?_) (fun hb=>?_)|refine aQ TT E (fun hb=>?_) (fun hb=>?_)|refine aO TT _ _ (fun hb=>?_) (fun hb=>?_)|refine aP TT _ _ (fun hb=>?_) (fun hb=>?_))<;>try simp only [hb]))<;>simp only [go_sem,↓reduceIte,aG,aH,a7,aA,aC,aD,aB,aE,a8,reduceCtorEq,aF,aI,aJ,aK,aL])))
  refine cU TT (m:=0) (toks:=[E.nt0]) (by simp only [go_sem,↓reduceIte,a7,aA,aB,a8,reduceCtorEq,Try.results109];rfl) (by simp) (by simp) rfl ⟨rfl,rfl,rfl,rfl⟩
def WX : List Thing → List (Nat × Nat) → List (List DV)
  | x :: w,p :: ps=>[.sl 1 (x.groups.map encI) (.tok p.1),.sl 3 (x.fields.map encF) (.tok p.2)] :: WX w ps
  | _,_=>[]
def tksW : List (Nat × Nat) → List Nat
  | []=>[]
  | p :: ps=>p.1 :: p.2 :: tksW ps
def holeT : List (Nat × Nat) → Nat → List Nat
  | [],_=>[]
  | p :: ps,0=>p.2 :: tksW ps
  | p :: ps,i + 1=>p.1 :: p.2 :: holeT ps i
theorem eK (a b : Nat) : ∀ ps,tksW (ps ++ [(a,b)]) = tksW ps ++ [a,b]
  | []=>rfl
  | p :: ps=>by simp [tksW,eK a b ps]
theorem WX_snoc (x : Thing) (a b : Nat) : ∀ (w : List Thing) (ps : List (Nat × Nat)),w.length = ps.length → WX (w ++ [x]) (ps ++ [(a,b)]) = WX w ps ++ [[.sl 1 (x.groups.map encI) (.tok a),.sl 3 (x.fields.map encF) (.tok b)]]
  | [],[],_=>rfl
  | y :: w,p :: ps,h=>by simp [WX,WX_snoc x a b w ps (by simpa using h)]
  | [],_ :: _,h=>by simp at h
  | _ :: _,[],h=>by simp at h
theorem WX_len : ∀ (w : List Thing) (ps : List (Nat × Nat)),w.length = ps.length → (WX w ps).length = w.length
  | [],[],_=>rfl
  | y :: w,p :: ps,h=>by simp [WX,WX_len w ps (by simpa using h)]
  | [],_ :: _,h=>by simp at h
  | _ :: _,[],h=>by simp at h
theorem WX_er : ∀ (w : List Thing) (ps : List (Nat × Nat)),w.length = ps.length → erLL (WX w ps) = w.map encT
  | [],[],_=>rfl
  | y :: w,p :: ps,h=>by simp [WX,erLL,erL,DV.er,eX,eT,encT,WX_er w ps (by simpa using h)]
  | [],_ :: _,h=>by simp at h
  | _ :: _,[],h=>by simp at h
theorem WX_get {x : Thing} {p : Nat × Nat} : ∀ {w : List Thing} {ps : List (Nat × Nat)} {i : Nat},w[i]? = some x → ps[i]? = some p → (WX w ps)[i]? = some [.sl 1 (x.groups.map encI) (.tok p.1),.sl 3 (x.fields.map encF) (.tok p.2)]
  | [],_,i,h,_=>by simp at h
  | _ :: _,[],i,_,h=>by simp at h
  | y :: w,q :: ps,0,h,h2=>by simp at h h2;subst h;subst h2;rfl
  | y :: w,q :: ps,i + 1,h,h2=>by simpa [WX] using WX_get (w:=w) (ps:=ps) (i:=i) (by simpa using h) (by simpa using h2)
theorem WX_set {x : Thing} {p : Nat × Nat} (gs : List Int) (a : Nat) : ∀ {w : List Thing} {ps : List (Nat × Nat)} {i : Nat},w[i]? = some x → ps[i]? = some p → (WX w ps).set i [.sl 1 (gs.map encI) (.tok a),.sl 3 (x.fields.map encF) (.tok p.2)] = WX (w.set i ⟨gs,x.fields⟩) (ps.set i (a,p.2))
  | [],_,i,h,_=>by simp at h
  | _ :: _,[],i,_,h=>by simp at h
  | y :: w,q :: ps,0,h,h2=>by simp at h h2;subst h;subst h2;rfl
  | y :: w,q :: ps,i + 1,h,h2=>by simpa [WX] using WX_set gs a (w:=w) (ps:=ps) (i:=i) (by simpa using h) (by simpa using h2)
theorem WX_own : ∀ (w : List Thing) (ps : List (Nat × Nat)),w.length = ps.length → (tksW ps).Nodup → ownLL (WX w ps) (tksW ps)
  | [],[],_,_=>rfl
  | y :: w,p :: ps,h,hn=>by
    simp only [tksW,List.nodup_cons,List.mem_cons,not_or] at hn
    simp only [WX,tksW,ownLL]
    exact ⟨[p.1] ++ [p.2],tksW ps,rfl,fun z hz hz2=>by simp at hz;rcases hz with rfl|rfl;exact hn.1.2 hz2;exact hn.2.1 hz2,eB (d8 (by simp) (dB (fun _=>rfl) _)) (eO (d8 (by simp) (dB (fun _=>rfl) _))) (fun z hz hz2=>by simp at hz hz2;exact hn.1.1 (hz ▸ hz2)),WX_own w ps (by simpa using h) hn.2.2⟩
  | [],_ :: _,h,_=>by simp at h
  | _ :: _,[],h,_=>by simp at h
theorem cD {z : Nat} : ∀ {ps : List (Nat × Nat)} {i : Nat},z ∈ holeT ps i → z ∈ tksW ps
  | [],_,h=>by simp [holeT] at h
  | p :: ps,0,h=>by simp only [holeT,tksW,List.mem_cons] at h ⊢;exact .inr h
  | p :: ps,i + 1,h=>by
    simp only [holeT,tksW,List.mem_cons] at h ⊢
    rcases h with h|h|h
    · exact .inl h
    · exact .inr (.inl h)
    · exact .inr (.inr (cD h))
theorem holeT_ne {p : Nat × Nat} : ∀ {ps : List (Nat × Nat)} {i : Nat},(tksW ps).Nodup → ps[i]? = some p → p.1 ∉ holeT ps i ∧ p.1 ∈ tksW ps
  | [],i,_,h=>by simp at h
  | q :: ps,0,hn,h=>by
    simp at h;subst h
    simp only [tksW,List.nodup_cons,List.mem_cons,not_or] at hn
    exact ⟨by simp only [holeT,List.mem_cons,not_or];exact hn.1,by simp [tksW]⟩
  | q :: ps,i + 1,hn,h=>by
    simp only [tksW,List.nodup_cons,List.mem_cons,not_or] at hn
    obtain ⟨h1,h2⟩:=holeT_ne hn.2.2 (by simpa using h : ps[i]? = some p)
    refine ⟨?_,by simp [tksW,h2]⟩
    simp only [holeT,List.mem_cons,not_or]
    exact ⟨fun e=>hn.1.2 (e ▸ h2),fun e=>hn.2.1 (e ▸ h2),h1⟩
theorem dE {p : Nat × Nat} (a : Nat) {z : Nat} : ∀ {ps : List (Nat × Nat)} {i : Nat},ps[i]? = some p → z ∈ tksW (ps.set i (a,p.2)) → z = a ∨ z ∈ holeT ps i
  | [],i,h,_=>by simp at h
  | q :: ps,0,h,hz=>by
    simp at h;subst h
    simp only [List.set_cons_zero,tksW,List.mem_cons,holeT] at hz ⊢
    exact hz
  | q :: ps,i + 1,h,hz=>by
    simp only [List.set_cons_succ,tksW,List.mem_cons,holeT] at hz ⊢
    rcases hz with hz|hz|hz
    · exact .inr (.inl hz)
    · exact .inr (.inr (.inl hz))
    · rcases dE a (by simpa using h : ps[i]? = some p) hz with h|h
      · exact .inl h
      · exact .inr (.inr (.inr h))
theorem tksW_nd {p : Nat × Nat} (a : Nat) : ∀ {ps : List (Nat × Nat)} {i : Nat},ps[i]? = some p → (tksW ps).Nodup → a ∉ tksW ps → (tksW (ps.set i (a,p.2))).Nodup
  | [],i,h,_,_=>by simp at h
  | q :: ps,0,h,hn,ha=>by
    simp at h;subst h
    simp only [List.set_cons_zero,tksW,List.nodup_cons,List.mem_cons,not_or] at hn ha ⊢
    exact ⟨⟨ha.2.1,ha.2.2⟩,hn.2⟩
  | q :: ps,i + 1,h,hn,ha=>by
    simp only [List.set_cons_succ,tksW,List.nodup_cons,List.mem_cons,not_or] at hn ha ⊢
    have h2:=tksW_nd a (by simpa using h : ps[i]? = some p) hn.2.2 ha.2.2
    refine ⟨⟨hn.1.1,fun hm=>?_⟩,fun hm=>?_,h2⟩
    · rcases dE a (by simpa using h : ps[i]? = some p) hm with e|hm
      · exact ha.1 e.symm
      · exact hn.1.2 (cD hm)
    · rcases dE a (by simpa using h : ps[i]? = some p) hm with e|hm
      · exact ha.2.1 e.symm
      · exact hn.2.1 (cD hm)
theorem WX_hole {x : Thing} {p : Nat × Nat} : ∀ {w : List Thing} {ps : List (Nat × Nat)} {i : Nat},w.length = ps.length → (tksW ps).Nodup → w[i]? = some x → ps[i]? = some p → ownLL ((WX w ps).set i [.int .i64 0,.sl 3 (x.fields.map encF) (.tok p.2)]) (holeT ps i)
  | [],_,i,_,_,h,_=>by simp at h
  | _ :: _,[],i,_,_,_,h=>by simp at h
  | y :: w,q :: ps,0,hl,hn,h,h2=>by
    simp at h h2;subst h;subst h2
    simp only [tksW,List.nodup_cons,List.mem_cons,not_or] at hn
    simp only [WX,List.set_cons_zero,holeT,ownLL]
    exact ⟨[q.2],tksW ps,rfl,fun z hz hz2=>by simp at hz;exact hn.2.1 (hz ▸ hz2),ownL_skip rfl (eO (d8 (by simp) (dB (fun _=>rfl) _))),WX_own w ps (by simpa using hl) hn.2.2⟩
  | y :: w,q :: ps,i + 1,hl,hn,h,h2=>by
    simp only [tksW,List.nodup_cons,List.mem_cons,not_or] at hn
    simp only [WX,List.set_cons_succ,holeT,ownLL]
    refine ⟨[q.1] ++ [q.2],holeT ps i,rfl,fun z hz hz2=>?_,eB (d8 (by simp) (dB (fun _=>rfl) _)) (eO (d8 (by simp) (dB (fun _=>rfl) _))) (fun z hz hz2=>by simp at hz hz2;exact hn.1.1 (hz ▸ hz2)),WX_hole (by simpa using hl) hn.2.2 (by simpa using h) (by simpa using h2)⟩
    simp at hz
    have h3:=cD hz2
    rcases hz with rfl|rfl
    · exact hn.1.2 h3
    · exact hn.2.1 h3
def wOK (ps : List (Nat × Nat)) (own : Own) (n nt : Nat) : Prop:=(tksW ps).Nodup ∧ (∀ z ∈ tksW ps,n ≤ z ∧ z < nt) ∧ ownS own n nt (ps = []) ∧ (∀ t ∈ tkOf own,t ∉ tksW ps) ∧ n ≤ nt
theorem wOK_0 {n nt : Nat} (h : n ≤ nt) : wOK [] .full n nt:=⟨by simp [tksW],by simp [tksW],.inl ⟨rfl,rfl⟩,by simp [tkOf],h⟩
theorem wOK_push {ps : List (Nat × Nat)} {own : Own} {n nt : Nat} (h : wOK ps own n nt) : wOK (ps ++ [(nt,nt + 1)]) (.tok (nt + 2)) n (nt + 2 + 1):=by
  obtain ⟨h1,h2,h3,h4,h5⟩:=h
  refine ⟨?_,fun z hz=>?_,ownS_tok (by omega),fun t ht hm=>?_,by omega⟩
  · rw [eK,List.nodup_append]
    refine ⟨h1,by simp,fun a ha b hb e=>?_⟩
    have:=(h2 a ha).2
    simp at hb
    omega
  · rw [eK] at hz
    rcases List.mem_append.1 hz with hz|hz
    · have:=h2 z hz;omega
    · simp at hz;omega
  · simp [tkOf] at ht
    subst ht
    rw [eK] at hm
    rcases List.mem_append.1 hm with hz|hz
    · have:=(h2 _ hz).2;omega
    · simp at hz
theorem tk_pushW {ps : List (Nat × Nat)} {own : Own} {n nt : Nat} (h : wOK ps own n nt) : ∀ t ∈ tkOf (.tok (nt + 2)) ++ tksW (ps ++ [(nt,nt + 1)]),t ∈ (nt + 2) :: cR own ((nt + 1) :: nt :: (tkOf own ++ tksW ps)):=by
  intro t ht
  obtain ⟨g1,g2,g3,g4,g5⟩:=h
  rw [eK] at ht
  simp only [tkOf,List.cons_append,List.nil_append,List.mem_cons,List.mem_append,List.not_mem_nil,or_false] at ht
  have hno : ∀ u,nt ≤ u → u ∉ tkOf own:=fun u hu hin=>by
    rcases g3 with ⟨rfl,_⟩|⟨x,rfl,_,h7⟩
    · simp [tkOf] at hin
    · simp [tkOf] at hin
      subst hin
      omega
  rcases ht with rfl|ht|rfl|rfl
  · simp
  · exact List.mem_cons_of_mem _ (cF (by simp [ht]) fun hin=>g4 t hin ht)
  · exact List.mem_cons_of_mem _ (cF (by simp) (hno _ (Nat.le_refl _)))
  · exact List.mem_cons_of_mem _ (cF (by simp) (hno _ (by omega)))
theorem cwO (w : List Thing) (Hw : smallW w) : AC Try.prog 53 [LT w] [] fun n0 v o t m=>∃ ps own,v = ST (WX w ps) own ∧ o = [] ∧ t = tkOf own ++ tksW ps ∧ w.length = ps.length ∧ wOK ps own n0 m:=by
  refine bE TT Try.call53 Try.func53 rfl (by simp [Try.ntmps53]) (by kernel_rfl) fun E hk=>?_
  (repeat' (first|with_reducible (first|refine bC ?_|refine b6 ?_|refine b9 ?_|refine bA ?_|refine bD ?_|refine aT ?_|refine b8 ?_|refine aY ?_|refine aS ?_|refine b5 ?_|refine aU ?_|refine b4 rfl ?_|(refine hK _ ?_;clear K hK)|refine aZ rfl ?_|refine aX rfl ?_|intro hfact)|(with_reducible refine And.intro ?_ ?_;focus (first|assumption|omega|(simp;done)|((repeat' apply And.intro)<;>first|assumption|omega)|((repeat' split)<;>omega)))|((first|with_reducible (first|((refine bB TT ?_);intro K hK)|((refine aW TT ?_);intro K hK)|((refine b7 TT [] MX (by kernel_rfl) (by kernel_rfl) ?_);intro K hK)|((refine aV TT [] MX (by kernel_rfl) (by kernel_rfl) ?_);intro K hK))|(with_reducible (first|refine aR TT E (fun hb=>?_) (fun hb=>?_)|refine aQ TT E (fun hb=>?_) (fun hb=>?_)|refine aO TT _ _ (fun hb=>?_) (fun hb=>?_)|refine aP TT _ _ (fun hb=>?_) (fun hb=>?_))<;>try simp only [hb]))<;>simp only [go_sem,↓reduceIte,aG,aH,a7,aA,aC,aD,aB,aE,a8,reduceCtorEq,aF,aI,aJ,aK,aL])))
  refine cE (w) (List.length (w)) 6 [] [6,7] (fun k s=>[(3,ST (WX (w.take k) s.1) s.2),(8,I k)]) (fun obs k s=>obs) (fun k s=>tkOf s.2 ++ tksW s.1) (fun k rest s nt=>(w.take k).length = s.1.length ∧ wOK s.1 s.2 E.nt0 nt) ((([] : List (Nat × Nat)),Own.full)) (by first|rfl|(simp;done)|(simp;omega)) (by first|rfl|(simp only [go_sem,↓reduceIte,a7,aA,aB,a8,reduceCtorEq];done)|(simp only [go_sem,↓reduceIte,a7,aA,aB,a8,reduceCtorEq];simp;done)) (by simp only [go_sem,↓reduceIte,a7,aA,aB,a8,reduceCtorEq];rfl) (by first|rfl|(simp only [go_sem,↓reduceIte,a7,aA,aB,a8,reduceCtorEq];rfl)) (⟨by simp,wOK_0 (by first|omega|(dsimp only;omega))⟩) (by unfold ASubW;simp only [go_sem,↓reduceIte,a7,aA,aB,a8,reduceCtorEq,hk];try simp [tkOf,tksW,WX,ST,d6,List.take_zero,List.append_nil]) ?_ ?_
  · rintro ⟨ps,own⟩ nt hmax ⟨he,hg⟩
    dsimp only at he hg
    rw [List.take_length] at he ⊢
    (repeat' (first|with_reducible (first|refine bC ?_|refine b6 ?_|refine b9 ?_|refine bA ?_|refine bD ?_|refine aT ?_|refine b8 ?_|refine aY ?_|refine aS ?_|refine b5 ?_|refine aU ?_|refine b4 rfl ?_|(refine hK _ ?_;clear K hK)|refine aZ rfl ?_|refine aX rfl ?_|intro hfact)|(with_reducible refine And.intro ?_ ?_;focus (first|assumption|omega|(simp;done)|((repeat' apply And.intro)<;>first|assumption|omega)|((repeat' split)<;>omega)))|((first|with_reducible (first|((refine bB TT ?_);intro K hK)|((refine aW TT ?_);intro K hK)|((refine b7 TT [] MX (by kernel_rfl) (by kernel_rfl) ?_);intro K hK)|((refine aV TT [] MX (by kernel_rfl) (by kernel_rfl) ?_);intro K hK))|(with_reducible (first|refine aR TT E (fun hb=>?_) (fun hb=>?_)|refine aQ TT E (fun hb=>?_) (fun hb=>?_)|refine aO TT _ _ (fun hb=>?_) (fun hb=>?_)|refine aP TT _ _ (fun hb=>?_) (fun hb=>?_))<;>try simp only [hb]))<;>simp only [go_sem,↓reduceIte,aG,aH,a7,aA,aC,aD,aB,aE,a8,reduceCtorEq,aF,aI,aJ,aK,aL])))
    refine cU TT (m:=0) (toks:=tkOf own ++ tksW ps) (by simp only [go_sem,↓reduceIte,a7,aA,aB,a8,reduceCtorEq,Try.results53];rfl) (by simp) (fun t h=>h) rfl ⟨ps,own,rfl,rfl,rfl,he,hg⟩
  · rintro k x rest ⟨ps,own⟩ nt hA ⟨he,hg⟩
    dsimp only at he hg
    have hkl:=hA.lt
    have hx:=Hw.2 x hA.mem
    have hw0:=Hw.1
    have hXl : (WX (w.take k) ps).length ≤ 1000:=by rw [WX_len _ _ he];simp;omega
    have ho1 : ownOK own ((nt + 1) :: nt :: (tkOf own ++ tksW ps)):=dS (ownS_lt hg.2.2.1) (by intro t ht;simp [ht])
    have hpush:=wOK_push hg
    have htk:=tk_pushW hg
    have hsn:=WX_snoc x nt (nt + 1) (w.take k) ps he
    rw [← hA.snoc] at hsn
    (repeat' (first|with_reducible (first|refine bC ?_|refine b6 ?_|refine b9 ?_|refine bA ?_|refine bD ?_|refine aT ?_|refine b8 ?_|refine aY ?_|refine aS ?_|refine b5 ?_|refine aU ?_|refine b4 rfl ?_|(refine hK _ ?_;clear K hK)|refine aZ rfl ?_|refine aX rfl ?_|intro hfact)|(with_reducible refine And.intro ?_ ?_;focus (first|assumption|omega|(simp;done)|((repeat' apply And.intro)<;>first|assumption|omega)|((repeat' split)<;>omega)))|((first|with_reducible (first|((refine bB TT ?_);intro K hK)|((refine aW TT ?_);intro K hK)|((refine b7 TT [] MX (by kernel_rfl) (by kernel_rfl) ?_);intro K hK)|((refine aV TT [] MX (by kernel_rfl) (by kernel_rfl) ?_);intro K hK))|(with_reducible (first|refine aR TT E (fun hb=>?_) (fun hb=>?_)|refine aQ TT E (fun hb=>?_) (fun hb=>?_)|refine aO TT _ _ (fun hb=>?_) (fun hb=>?_)|refine aP TT _ _ (fun hb=>?_) (fun hb=>?_))<;>try simp only [hb])|(refine callKD_ac TT _ _ [] (clnI x.groups (by omega)) (fun _=>rfl) rfl rfl List.nodup_nil (by simp) (fun n=>⟨_,_,_,_,rfl,rfl,rfl,rfl⟩) ?_;rintro r os ts m ⟨rfl,rfl,rfl,rfl⟩;refine ⟨rfl,rfl,?_⟩)|(refine callKD_ac TT _ _ [] (clnF x.fields (by omega)) (fun _=>rfl) rfl rfl List.nodup_nil (by simp) (fun n=>⟨_,_,_,_,rfl,rfl,rfl,rfl⟩) ?_;rintro r os ts m ⟨rfl,rfl,rfl,rfl⟩;refine ⟨rfl,rfl,?_⟩))<;>simp only [go_sem,↓reduceIte,aG,aH,a7,aA,aC,aD,aB,aE,a8,reduceCtorEq,aF,aI,aJ,aK,aL,hA.d,hA.w,hA.lt,hA.g,encT])))
    refine ⟨(ps ++ [(nt,nt + 1)],.tok (nt + 2)),⟨?_,hpush⟩,?_⟩
    · rw [hA.snoc];simp only [List.length_append,List.length_singleton];omega
    · refine ⟨?_,?_,?_,htk,?_⟩<;>(simp only [go_sem,↓reduceIte,a7,aA,aB,a8,reduceCtorEq,hk,ST,hsn];try simp)
end Go.Proofs.Ytdfbaedkcfhdfaa
