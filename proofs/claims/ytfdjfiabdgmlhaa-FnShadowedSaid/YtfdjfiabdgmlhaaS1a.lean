import Derived.Test.YtfdjfiabdgmlhaaT1
import Derived.Test.YtfdjfiabdgmlhaaCoreE
import Derived.Deep.RegionLaw
import Derived.Below
import Derived.Lib.Walk
open Nat renaming reduceEqDiff → a7,reduceLeDiff → a8,reduceAdd → aA,reduceLT → aB,reduceMul → aC,reduceSub → aD,reduceBEq → aE
namespace Go.Proofs.Ytfdjfiabdgmlhaa
open Go Go.AL Go.RowKit
set_option linter.unusedSimpArgs false
set_option linter.unusedVariables false
theorem step_append_row {P : Program} {ops : Array Oper} {o : Oper} {a : Act} {w : World} {K : Act → World → Prop} {Q : Exit → Act → World → Prop} {E : Prop}
    (hg : o.guard = none) (s x : Operand) (t : TypeId) (hop : o.op = Op.call { callee:=Callee.builtin Builtin.append,args:=#[s,x],argTypes:=#[t,t] })
    (e : TypeId) (i : TypeInfo) (size : Nat) (h1 : P.underlying t = some (.slice e)) (h2 : P.info? e = some i) (h4 : i.size = size)
    (b n cap : Nat) (hs : a.eval s = .slice (some ⟨b,0,none⟩) n cap)
    (ad : Addr) (m c : Nat) (news : List Value) (hx : a.eval x = .slice (some ad) m c) (hn : news.length = m * size) (hc : ∀ (j : Nat) u,news[j]? = some u → w.cell? (ad.add j) = some u) (h1c : ∀ u ∈ news,u.oneCell' = true)
    (hroom : n + m ≤ cap) (cur : Array Value) (T : TypeId) (hcur : w.heap[b]? = some (.cells cur T (0,0))) (hsz : n * size + news.length ≤ cur.size)
    (hK : K (a.put o.dst (.slice (some ⟨b,0,none⟩) (n + m) cap)) (w.setRow b (cur.toList.take (n * size) ++ news ++ cur.toList.drop (n * size + news.length)).toArray)) :
    if Region.wanted o (yielded ops a.tmps) = true then Oper.wp P o a w K Q else E:=by
  have hw : Region.wanted o (yielded ops a.tmps) = true:=by simp [Region.wanted,hg]
  rw [if_pos hw]
  subst h4
  have hf:=run_firstCells_some (P:=P) w i.size m ad m c news hn hc
  have hst:=run_storeCells_at P b (n * i.size) T news 0 cur w hcur (by simpa using hsz) h1c
  simp only [Nat.add_zero] at hst
  have hrun : (Builtin.append_ #[t,t] o.type #[.slice (some ⟨b,0,none⟩) n cap,.slice (some ad) m c]).run P w = .ok (.slice (some ⟨b,0,none⟩) (n + m) cap) (w.setRow b (cur.toList.take (n * i.size) ++ news ++ cur.toList.drop (n * i.size + news.length)).toArray):=by
    simp [Builtin.append_,run_underlying h1,sizeOf,typeInfo,h2,Builtin.lenOf,hroom,hf,Addr.add_lit,hst]
  generalize w.setRow b (cur.toList.take (n * i.size) ++ news ++ cur.toList.drop (n * i.size + news.length)).toArray = W at hrun hK
  unfold Oper.wp
  simp [execOp,hop,resolve,invoke,builtin,hs,hx,hrun,Result.andThen]
  exact hK
set_option maxHeartbeats 4000000 in
set_option maxRecDepth 1000000 in
theorem delF : DelF Try.prog 123 9:=by
  refine ⟨Try.call123,fun w b n cap i arr T hb hsz hin hnc hcm hone=>?_⟩
  obtain ⟨inf,hi1,hi2,hi3⟩:=info_of (TT.ok 49) (by rfl)
  have hz1 : inf.size = 9:=hi2
  obtain ⟨news,hnews⟩ : ∃ news,news = (arr.toList.take (n * 9)).drop ((i + 1) * 9):=⟨_,rfl⟩
  have hn9 : n * 9 ≤ arr.size:=by rw [hsz];omega
  have hlen : news.length = (n - (i + 1)) * 9:=by rw [hnews];simp;omega
  have hget : ∀ t,t < (n - (i + 1)) * 9 → news[t]? = arr[(i + 1) * 9 + t]?:=by
    intro t ht
    rw [hnews,List.getElem?_drop,List.getElem?_take,if_pos (by omega)]
    simp
  obtain ⟨j,hj⟩ : ∃ j,j = i + 1:=⟨_,rfl⟩
  have hij : ((i : Int) + 1) = ((j : Nat) : Int):=by omega
  rw [hij]
  rw [← hj] at hnews hlen hget
  obtain ⟨A,hA,hsrc⟩ : ∃ A : Addr,(if cap = j then some (⟨b,0,none⟩ : Addr) else some ⟨b,j * 9,none⟩) = some A ∧ Hid (∀ (t : Nat) u,news[t]? = some u → w.drew.cell? (A.add t) = some u):=by
    by_cases h : cap = j
    · refine ⟨⟨b,0,none⟩,by simp [h],fun t u hu=>?_⟩
      have h0 : news.length = 0:=by rw [hlen];omega
      rw [List.length_eq_zero_iff.1 h0] at hu
      simp at hu
    · refine ⟨⟨b,j * 9,none⟩,by simp [h],fun t u hu=>?_⟩
      have ht : t < (n - j) * 9:=by
        have:=(List.getElem?_eq_some_iff.1 hu).1
        rwa [hlen] at this
      rw [hget t ht] at hu
      rw [Addr.add_lit]
      show w.cell? _ = _
      simp only [World.cell?,hb]
      simpa using hu
  have s2 : Hid (∀ u ∈ news,u.oneCell' = true):=fun u hu=>by
    obtain ⟨t,ht⟩:=List.getElem?_of_mem hu
    have htl:=(List.getElem?_eq_some_iff.1 ht).1
    rw [hlen] at htl
    rw [hget t htl] at ht
    exact hone _ u (by omega) ht
  have s1 : Hid (news.length = (n - j) * 9):=hlen
  obtain ⟨W1,hW1⟩ : ∃ W1,W1 = w.drew.setRow b (arr.toList.take (i * 9) ++ news ++ arr.toList.drop (i * 9 + news.length)).toArray:=⟨_,rfl⟩
  have hW : Hid (W1 = w.drew.setRow b (arr.toList.take (i * 9) ++ news ++ arr.toList.drop (i * 9 + news.length)).toArray):=hW1
  have hbd : Hid (w.drew.heap[b]? = some (.cells arr T (0,0))):=hb
  have hic : i ≤ cap:=by omega
  have hjc : j ≤ cap:=by omega
  have hjn : j ≤ n:=by omega
  have hlt : i < j:=by omega
  have hroom : Hid (i * 9 + news.length ≤ arr.size):=(show i * 9 + news.length ≤ arr.size by rw [hlen];omega)
  have z94 : ∀ w,(Go.sizeOf 49).run Try.prog w = .ok 9 w:=fun w=>cC w (TT.ok 49) (by rfl)
  have hjh : Hid (j = i + 1):=hj
  have hgeth : Hid (∀ t,t < (n - j) * 9 → news[t]? = arr[j * 9 + t]?):=hget
  have hij' : i ≤ j:=by omega
  have hne : ((i : Int) == (j : Int)) = false:=by simp;omega
  have F0 : Hid (arr.size = cap * 9 ∧ i < n ∧ n ≤ cap):=⟨hsz,hin,hnc⟩
  clear hW1 hget hnews hlen hb hj hij hone hi2 hi3 hsz hn9
  obtain ⟨N,hN⟩ : ∃ N,N = i + (n - j):=⟨_,rfl⟩
  have hNh : Hid (N = i + (n - j)):=hN
  have hNn : N < n:=by omega
  have hW1b : Hid (W1.heap[b]? = some (.cells (arr.toList.take (i * 9) ++ news ++ arr.toList.drop (i * 9 + news.length)).toArray T (0,0))):=by
    have:=setRow_heap w.drew b arr (arr.toList.take (i * 9) ++ news ++ arr.toList.drop (i * 9 + news.length)).toArray T (0,0) hbd.out
    rw [← hW.out] at this
    exact this
  obtain ⟨q1,q2,q3,q4⟩:=dF (TT.ok 49) (by intro h;cases h) (z:=[.str [],.bool false,.int .i64 0,.int .i64 0,.int .i64 0,.int .i64 0,.int .i64 0,.str [],.sl 4 [] .full]) rfl W1
  have q5:=eX (ti:=TT.T 49) q3 q4 q2
  generalize (if (TT.T 49).t.agg then Value.agg _ else _) = zz at q1 q5
  obtain ⟨cs1,hcs1⟩ : ∃ cs1,cs1 = (arr.toList.take (i * 9) ++ news ++ arr.toList.drop (i * 9 + news.length)).toArray:=⟨_,rfl⟩
  rw [← hcs1] at hW1b
  have hs1 : cs1.size = arr.size:=by
    have h1:=hroom.out
    rw [hcs1];simp;omega
  obtain ⟨zs,hzs⟩ : ∃ zs,zs = (Builtin.zeroCells zz.cells 1).toList:=⟨_,rfl⟩
  have hzl : zs.length = 9:=by rw [hzs,Array.length_toList,size_zeroCells,q5];rfl
  have hz1c : ∀ u ∈ zs,u.oneCell' = true:=by
    intro u hu
    rw [hzs,q5] at hu
    simp only [Builtin.zeroCells,Array.toList_map,List.mem_map] at hu
    obtain ⟨k,hk,rfl⟩:=hu
    have hk9 : k < 9:=by simpa using hk
    have hk' : k % 9 = k:=Nat.mod_eq_of_lt hk9
    rcases (by omega : k = 0 ∨ k = 1 ∨ k = 2 ∨ k = 3 ∨ k = 4 ∨ k = 5 ∨ k = 6 ∨ k = 7 ∨ k = 8) with rfl|rfl|rfl|rfl|rfl|rfl|rfl|rfl|rfl<;>rfl
  obtain ⟨W2,hW2⟩ : ∃ W2,W2 = W1.setRow b (cs1.toList.take (N * 9) ++ zs ++ cs1.toList.drop (N * 9 + zs.length)).toArray:=⟨_,rfl⟩
  have hF0:=F0.out
  have hst:=run_storeCells_at (P:=Try.prog) b (N * 9) T zs 0 cs1 W1 hW1b.out (by rw [hs1,hF0.1,hzl];have:=hjh.out;omega) hz1c
  simp only [Nat.add_zero] at hst
  rw [← hW2] at hst
  have hn1 : n - (i + (n - j)) = 1:=by have:=hjh.out;omega
  have hcl : ∀ ty,(Builtin.clear_ #[25] ty #[.slice (some ⟨b,(i + (n - j)) * 9,none⟩) (n - (i + (n - j))) (cap - (i + (n - j)))]).run Try.prog W1 = .ok (.tuple #[]) W2:=by
    intro ty
    rw [hn1,← hN]
    simp [Builtin.clear_,run_underlying Try.underlying25,q1,← hzs,hst]
  have hW2b : Hid (W2.heap[b]? = some (.cells (cs1.toList.take (N * 9) ++ zs ++ cs1.toList.drop (N * 9 + zs.length)).toArray T (0,0))):=by
    have:=setRow_heap W1 b cs1 (cs1.toList.take (N * 9) ++ zs ++ cs1.toList.drop (N * 9 + zs.length)).toArray T (0,0) hW1b.out
    rw [← hW2] at this
    exact this
  have hW2o : Hid (FrameW [b] w W2):=by
    have e1:=hW.out
    refine ⟨?_,fun k hk hn=>?_,?_,?_,?_⟩
    · rw [hW2,e1];simp
    · have hkb : k ≠ b:=by simpa using hn
      rw [hW2,setRow_other W1 b k _ hkb,e1,setRow_other w.drew b k _ hkb];rfl
    · rw [hW2,e1];rfl
    · rw [hW2,e1];rfl
    · rw [hW2,e1];rfl
  have hcN : (cap == i + (n - j)) = false:=by have:=hjh.out;simp;omega
  have hcN' : ¬ cap = i + (n - j):=by have:=hjh.out;omega
  have hin2 : i + (n - j) ≤ n:=by omega
  have hnc2 : n - N ≤ cap - N:=by omega
  have hfin : Hid (W2.heap[b]? = some (.cells (cs1.toList.take (N * 9) ++ zs ++ cs1.toList.drop (N * 9 + zs.length)).toArray T (0,0)) ∧ (cs1.toList.take (N * 9) ++ zs ++ cs1.toList.drop (N * 9 + zs.length)).toArray.size = arr.size ∧ ∀ k,k < (n - 1) * 9 → (cs1.toList.take (N * 9) ++ zs ++ cs1.toList.drop (N * 9 + zs.length)).toArray[k]? = if k < i * 9 then arr[k]? else arr[k + 9]?):=by
    have hji:=hjh.out
    have hNn1 : N = n - 1:=by omega
    refine ⟨hW2b.out,?_,fun k hk=>?_⟩
    · simp;omega
    · simp only [List.getElem?_toArray]
      rw [List.append_assoc,List.getElem?_append_left (by simp;omega),List.getElem?_take,if_pos (by omega),Array.getElem?_toList,hcs1]
      simp only [List.getElem?_toArray]
      by_cases hki : k < i * 9
      · rw [if_pos hki,List.append_assoc,List.getElem?_append_left (by simp;omega),List.getElem?_take,if_pos hki,Array.getElem?_toList]
      · rw [if_neg hki,List.append_assoc,List.getElem?_append_right (by simp;omega)]
        have hl : (List.take (i * 9) arr.toList).length = i * 9:=by have:=hroom.out;simp;omega
        have hnl:=s1.out
        rw [hl,List.getElem?_append_left (by omega),hgeth.out _ (by omega)]
        congr 1;omega
  clear hn1 hs1 hzl hz1c hW2 hst q1 q2 q3 q4 q5 hcs1 hF0 hN hzs hNn hnc2
  go_enter Try.func123,Try.ntmps123
  go_wp2_with fail
  go_region_law (refine step_append_row rfl (.tmp 22) (.tmp 25) 25 rfl 49 inf 9 Try.underlying25 hi1 hz1 b i cap (by simp [Act.eval,Act.put]) A (n - j) (cap - j) news (by simp [Act.eval,Act.put]) s1.out hsrc.out s2.out (by omega) arr T hbd.out hroom.out ?_;rw [← hW.out])
  go_wp2
  go_ret
  have hji:=hjh.out
  obtain ⟨e1,e2,e3⟩:=hfin.out
  exact ⟨by rw [show i + (n - j) = n - 1 by omega];rfl,⟨_,e1,e2,e3⟩,hW2o.out⟩
theorem cloneU (xs : List (List DV)) (hx : xs ≠ []) (hl : xs.length ≤ 1000000) : AC Try.prog 98 [.d (.sl 9 xs .no)] [] fun n v o t m=>v = .d (.sl 9 xs (.tok n)) ∧ o = [] ∧ t = [n] ∧ m = n + 1:=by
  refine bE TT Try.call98 Try.func98 rfl (by simp [Try.ntmps98]) (by kernel_rfl) fun E hk=>?_
  (repeat' (first|((refine awp_seqrS (id:=1) TT 1 ?_;intro K hK;simp only [List.take_succ_cons,List.take_zero];simp only [go_sem,↓reduceIte,a7,aA,aB,a8,reduceCtorEq]))|with_reducible (first|refine bC ?_|refine b7 ?_|refine bB ?_|refine b9 ?_|refine bD ?_|refine aT ?_|refine b6 ?_|refine b4 ?_|refine aR ?_|refine aY ?_|refine aU ?_|refine b5 rfl ?_|(refine hK _ ?_;clear K hK)|refine aZ rfl ?_|refine aX rfl ?_|intro hfact)|(with_reducible refine And.intro ?_ ?_;focus (first|assumption|omega|(simp;done)|((repeat' apply And.intro)<;>first|assumption|omega)|((repeat' split)<;>omega)))|((first|with_reducible (first|((refine bA TT ?_);intro K hK)|((refine aW TT ?_);intro K hK)|((refine b8 TT [] MX (by kernel_rfl) (by kernel_rfl) ?_);intro K hK)|((refine aV TT [] MX (by kernel_rfl) (by kernel_rfl) ?_);intro K hK))|(with_reducible (first|refine aQ TT E (fun hb=>?_) (fun hb=>?_)|refine aS TT E (fun hb=>?_) (fun hb=>?_)|refine aP TT _ _ (fun hb=>?_) (fun hb=>?_)|refine aO TT _ _ (fun hb=>?_) (fun hb=>?_))<;>try simp only [hb]))<;>simp only [go_sem,↓reduceIte,Int.reduceBEq,Int.reduceBNe,a7,aA,aC,aD,aB,aE,a8,reduceCtorEq,Int.reduceToNat,Int.reduceNeg,Int.reduceEq,Int.reduceLE,Int.reduceLT])))
  simp only [List.drop_succ_cons,List.drop_zero]
  refine sem_eqnil TT rfl rfl ?_
  intro b hb
  have hb' : b = false:=by cases b with|false=>rfl|true=>exact absurd (hb rfl) hx
  subst hb'
  refine sem_nil ?_
  (repeat' (first|with_reducible (first|refine bC ?_|refine b7 ?_|refine bB ?_|refine b9 ?_|refine bD ?_|refine aT ?_|refine b6 ?_|refine b4 ?_|refine aR ?_|refine aY ?_|refine aU ?_|refine b5 rfl ?_|(refine hK _ ?_;clear K hK)|refine aZ rfl ?_|refine aX rfl ?_|intro hfact)|(with_reducible refine And.intro ?_ ?_;focus (first|assumption|omega|(simp;done)|((repeat' apply And.intro)<;>first|assumption|omega)|((repeat' split)<;>omega)))|((first|with_reducible (first|((refine bA TT ?_);intro K hK)|((refine aW TT ?_);intro K hK)|((refine b8 TT [] MX (by kernel_rfl) (by kernel_rfl) ?_);intro K hK)|((refine aV TT [] MX (by kernel_rfl) (by kernel_rfl) ?_);intro K hK))|(with_reducible (first|refine aQ TT E (fun hb=>?_) (fun hb=>?_)|refine aS TT E (fun hb=>?_) (fun hb=>?_)|refine aP TT _ _ (fun hb=>?_) (fun hb=>?_)|refine aO TT _ _ (fun hb=>?_) (fun hb=>?_))<;>try simp only [hb]))<;>simp only [go_sem,↓reduceIte,Int.reduceBEq,Int.reduceBNe,a7,aA,aC,aD,aB,aE,a8,reduceCtorEq,Int.reduceToNat,Int.reduceNeg,Int.reduceEq,Int.reduceLE,Int.reduceLT])))
  refine g9 TT (m:=0) (toks:=[E.nt0]) (by simp only [go_sem,↓reduceIte,a7,aA,aB,a8,reduceCtorEq,Try.results98];rfl) (by simp) (by simp) rfl ⟨rfl,rfl,rfl,rfl⟩
end Go.Proofs.Ytfdjfiabdgmlhaa
