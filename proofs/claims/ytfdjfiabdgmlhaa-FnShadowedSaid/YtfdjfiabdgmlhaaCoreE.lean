import Derived.Test.YtfdjfiabdgmlhaaCoreD
import Derived.Lib.SliceRun
set_option linter.unusedVariables false
set_option linter.unusedSimpArgs false
set_option linter.unusedSectionVars false
namespace Go.AL
open Go
set_option linter.unusedSimpArgs false
set_option linter.unusedVariables false
def Disj (a b : List Nat) : Prop:=∀ x ∈ a,x ∉ b
theorem Disj.symm {a b : List Nat} (h : Disj a b) : Disj b a:=fun x hx hy=>h x hy hx
def cellsAt (w : World) (b : Nat) (vs : List Value) : Prop:=∃ arr T,w.heap[b]? = some (.cells arr T (0,0)) ∧ ∀ (j : Nat) v,vs[j]? = some v → arr[j]? = some v
theorem cellsAt.frame {w w' : World} {b : Nat} {vs : List Value} (h : cellsAt w b vs) (he : w'.heap[b]? = w.heap[b]?) : cellsAt w' b vs:=by
  obtain ⟨arr,T,h1,h2⟩:=h
  exact ⟨arr,T,by rw [he];exact h1,h2⟩
theorem cellsAt.cell {w : World} {b : Nat} {vs : List Value} (h : cellsAt w b vs) {j : Nat} {v : Value} (hv : vs[j]? = some v) : w.cell? ⟨b,j,none⟩ = some v:=by
  obtain ⟨arr,T,h1,h2⟩:=h
  simp only [World.cell?,h1]
  simpa using h2 j v hv
mutual
def TreeV (w : World) : DV → Value → List Nat → Prop
  | .int k n,v,bs=>v = .int k n ∧ bs = []
  | .bool b,v,bs=>v = .bool b ∧ bs = []
  | .str s,v,bs=>(v = .string ⟨s.toArray⟩ ∧ s.length ≤ 9223372036854775807) ∧ bs = []
  | .sl sz xs _,v,bs=>∃ a cap,v = .slice a xs.length cap ∧ (xs.length ≤ cap ∧ cap ≤ 9223372036854775807 ∧ (a = none → cap = 0) ∧ (0 < cap → ∀ adr,a = some adr → adr.spot = none)) ∧
      ((xs = [] ∧ bs = []) ∨ ∃ b vs bs',a = some ⟨b,0,none⟩ ∧ bs = b :: bs' ∧ b ∉ bs' ∧ cellsAt w b vs ∧ (∀ x ∈ xs,x.length = sz) ∧ TreeLL w xs vs bs')
  | .pin _ _,_,_=>False
def TreeLL (w : World) : List (List DV) → List Value → List Nat → Prop
  | [],vs,bs=>vs = [] ∧ bs = []
  | x :: xs,vs,bs=>∃ v1 v2 b1 b2,vs = v1 ++ v2 ∧ bs = b1 ++ b2 ∧ Disj b1 b2 ∧ TreeL w x v1 b1 ∧ TreeLL w xs v2 b2
def TreeL (w : World) : List DV → List Value → List Nat → Prop
  | [],vs,bs=>vs = [] ∧ bs = []
  | c :: cs,vs,bs=>∃ v v2 b1 b2,vs = v :: v2 ∧ bs = b1 ++ b2 ∧ Disj b1 b2 ∧ TreeV w c v b1 ∧ TreeL w cs v2 b2
end
mutual
theorem TreeV.frame {w w' : World} : ∀ {c : DV} {v : Value} {bs : List Nat},TreeV w c v bs → (∀ b ∈ bs,w'.heap[b]? = w.heap[b]?) → TreeV w' c v bs
  | .int _ _,_,_,h,_=>h
  | .bool _,_,_,h,_=>h
  | .str _,_,_,h,_=>h
  | .pin _ _,_,_,h,_=>h
  | .sl sz xs o,v,bs,h,hb=>by
    simp only [TreeV] at h ⊢
    obtain ⟨a,cap,h1,h2,h3⟩:=h
    refine ⟨a,cap,h1,h2,?_⟩
    rcases h3 with h3|⟨b,vs,bs',h3,rfl,h5,h6,h7,h8⟩
    · exact .inl h3
    · exact .inr ⟨b,vs,bs',h3,rfl,h5,h6.frame (hb b (by simp)),h7,TreeLL.frame h8 fun x hx=>hb x (by simp [hx])⟩
theorem TreeLL.frame {w w' : World} : ∀ {c : List (List DV)} {v : List Value} {bs : List Nat},TreeLL w c v bs → (∀ b ∈ bs,w'.heap[b]? = w.heap[b]?) → TreeLL w' c v bs
  | [],_,_,h,_=>h
  | x :: xs,v,bs,h,hb=>by
    simp only [TreeLL] at h ⊢
    obtain ⟨v1,v2,b1,b2,rfl,rfl,hd,h1,h2⟩:=h
    exact ⟨v1,v2,b1,b2,rfl,rfl,hd,TreeL.frame h1 fun x hx=>hb x (by simp [hx]),TreeLL.frame h2 fun x hx=>hb x (by simp [hx])⟩
theorem TreeL.frame {w w' : World} : ∀ {c : List DV} {v : List Value} {bs : List Nat},TreeL w c v bs → (∀ b ∈ bs,w'.heap[b]? = w.heap[b]?) → TreeL w' c v bs
  | [],_,_,h,_=>h
  | x :: xs,v,bs,h,hb=>by
    simp only [TreeL] at h ⊢
    obtain ⟨v1,v2,b1,b2,rfl,rfl,hd,h1,h2⟩:=h
    exact ⟨v1,v2,b1,b2,rfl,rfl,hd,TreeV.frame h1 fun x hx=>hb x (by simp [hx]),TreeL.frame h2 fun x hx=>hb x (by simp [hx])⟩
end
mutual
theorem TreeV.rep {w : World} {I : IH} {τ : TH} : ∀ {c : DV} {v : Value} {bs : List Nat},TreeV w c v bs → (∀ b ∈ bs,∀ o x,w.cell? ⟨b,o,none⟩ = some x → I b o = some x) → RepD I τ c.er v
  | .int k n,v,bs,h,_=>by simp only [TreeV] at h;obtain ⟨rfl,_⟩:=h;exact .int k n
  | .bool k,v,bs,h,_=>by simp only [TreeV] at h;obtain ⟨rfl,_⟩:=h;exact .bool k
  | .str s,v,bs,h,_=>by simp only [TreeV] at h;obtain ⟨⟨rfl,h2⟩,_⟩:=h;exact .str s h2
  | .pin _ _,_,_,h,_=>by simp only [TreeV] at h
  | .sl sz xs o,v,bs,h,hb=>by
    simp only [TreeV] at h
    obtain ⟨a,cap,rfl,⟨hc1,hc2,hc3,hc4⟩,h3⟩:=h
    simp only [DV.er]
    rcases h3 with ⟨rfl,rfl⟩|⟨b,vs,bs',rfl,rfl,h5,h6,h7,h8⟩
    · exact .sl sz [] .no a cap (fun _=>undef) (by simp) hc1 hc2 hc3 hc4 (by simp) (by simp) trivial
    · have hl : (erLL xs).length = xs.length:=by rw [cY];simp
      have hr : RepL I τ (erLL xs).flatten vs:=TreeLL.rep h8 fun x hx=>hb x (by simp [hx])
      have:=eW (I:=I) (τ:=τ) (sz:=sz) (zs:=erLL xs) (own:=.no) (adr:=⟨b,0,none⟩) (cap:=cap) (vs:=vs) ?_ rfl (by rw [hl];exact hc1) hc2 ?_ hr trivial
      · rw [hl] at this;exact this
      · intro x hx
        rw [cY] at hx
        obtain ⟨x',hx',rfl⟩:=List.mem_map.1 hx
        rw [gC,List.length_map]
        exact h7 x' hx'
      · intro j v hv
        have:=h6.cell hv
        rw [Nat.zero_add]
        exact hb b (by simp) j v this
theorem TreeLL.rep {w : World} {I : IH} {τ : TH} : ∀ {c : List (List DV)} {v : List Value} {bs : List Nat},TreeLL w c v bs → (∀ b ∈ bs,∀ o x,w.cell? ⟨b,o,none⟩ = some x → I b o = some x) → RepL I τ (erLL c).flatten v
  | [],_,_,h,_=>by simp only [TreeLL] at h;obtain ⟨rfl,_⟩:=h;simpa [erLL] using RepL.nil I τ
  | x :: xs,v,bs,h,hb=>by
    simp only [TreeLL] at h
    obtain ⟨v1,v2,b1,b2,rfl,rfl,hd,h1,h2⟩:=h
    simp only [erLL,List.flatten_cons]
    exact (TreeL.rep h1 fun x hx=>hb x (by simp [hx])).append (TreeLL.rep h2 fun x hx=>hb x (by simp [hx]))
theorem TreeL.rep {w : World} {I : IH} {τ : TH} : ∀ {c : List DV} {v : List Value} {bs : List Nat},TreeL w c v bs → (∀ b ∈ bs,∀ o x,w.cell? ⟨b,o,none⟩ = some x → I b o = some x) → RepL I τ (erL c) v
  | [],_,_,h,_=>by simp only [TreeL] at h;obtain ⟨rfl,_⟩:=h;simpa [erL] using RepL.nil I τ
  | x :: xs,v,bs,h,hb=>by
    simp only [TreeL] at h
    obtain ⟨v1,v2,b1,b2,rfl,rfl,hd,h1,h2⟩:=h
    simp only [erL]
    exact RepL.cons (TreeV.rep h1 fun x hx=>hb x (by simp [hx])) (TreeL.rep h2 fun x hx=>hb x (by simp [hx]))
end
mutual
def ownD : DV → List Nat → Prop
  | .int _ _,ts=>ts = []
  | .bool _,ts=>ts = []
  | .str _,ts=>ts = []
  | .sl _ xs own,ts=>(xs = [] ∧ ts = []) ∨ ∃ t ts',own = .tok t ∧ ts = t :: ts' ∧ t ∉ ts' ∧ ownLL xs ts'
  | .pin _ _,_=>False
def ownLL : List (List DV) → List Nat → Prop
  | [],ts=>ts = []
  | x :: xs,ts=>∃ t1 t2,ts = t1 ++ t2 ∧ Disj t1 t2 ∧ ownL x t1 ∧ ownLL xs t2
def ownL : List DV → List Nat → Prop
  | [],ts=>ts = []
  | c :: cs,ts=>∃ t1 t2,ts = t1 ++ t2 ∧ Disj t1 t2 ∧ ownD c t1 ∧ ownL cs t2
end
def ofToks (τ : TH) (ts bs : List Nat) : Prop:=∀ b ∈ bs,∃ t ∈ ts,∃ e r,τ t = some (b,e,r)
theorem ofToks.disj {τ : TH} {toks ts us bs cs : List Nat} (hd : Disj ts us) (htk : ∀ t ∈ toks,∀ u ∈ toks,∀ b e r b' e' r',τ t = some (b,e,r) → τ u = some (b',e',r') → b = b' → t = u)
    (h1 : ∀ t ∈ ts,t ∈ toks) (h2 : ∀ t ∈ us,t ∈ toks) (hb : ofToks τ ts bs) (hc : ofToks τ us cs) : Disj bs cs:=fun x hx hy=>by
  obtain ⟨t,ht,e,r,h3⟩:=hb x hx
  obtain ⟨u,hu,e',r',h4⟩:=hc x hy
  have:=htk t (h1 t ht) u (h2 u hu) _ _ _ _ _ _ h3 h4 rfl
  subst this
  exact hd t ht hu
section
variable {E : Ent} {objs : List AO} {toks : List Nat} {nt : Nat} {I : IH} {τ : TH} {ρ : Nat → Nat} {w : World}
mutual
theorem tree_of {c : DV} (h : St E objs toks nt I τ ρ w) : ∀ {v : Value} {ts : List Nat},RepD I τ c v → ownD c ts → (∀ t ∈ ts,t ∈ toks) → ∃ bs,TreeV w c v bs ∧ ofToks τ ts bs:=by
  intro v ts hr ho ht
  cases c with
  | int k n=>cases hr;exact ⟨[],⟨rfl,rfl⟩,fun b hb=>by simp at hb⟩
  | bool b=>cases hr;exact ⟨[],⟨rfl,rfl⟩,fun b hb=>by simp at hb⟩
  | str s=>cases hr with|str _ hs=>exact ⟨[],⟨⟨rfl,hs⟩,rfl⟩,fun b hb=>by simp at hb⟩
  | pin c v=>simp only [ownD] at ho
  | sl sz xs own =>
    simp only [ownD] at ho
    have hr0:=hr
    cases hr with
    | sl _ _ _ a cap vals hsz hcap hmax hnil hadr hI hrep hown =>
    rcases ho with ⟨rfl,rfl⟩|⟨t,ts',rfl,rfl,htn,hol⟩
    · exact ⟨[],⟨a,cap,rfl,⟨hcap,hmax,hnil,hadr⟩,.inl ⟨rfl,rfl⟩⟩,fun b hb=>by simp at hb⟩
    · rcases hown with h0|⟨b,hb,rfl⟩
      · have hx : xs = []:=List.eq_nil_of_length_eq_zero (by omega)
        subst hx
        exact ⟨[],⟨a,cap,rfl,⟨hcap,hmax,hnil,hadr⟩,.inl ⟨rfl,rfl⟩⟩,fun b hb=>by simp at hb⟩
      · obtain ⟨_,vs,hvl,hvI,hvr⟩:=fO hr0
        obtain ⟨_,g⟩:=h.tok t (ht t (by simp))
        obtain ⟨_,⟨cur,T,g2,_⟩,_,_⟩:=g _ _ _ hb
        obtain ⟨bs',k1,k2⟩:=trees_of h hvr hol fun u hu=>ht u (by simp [hu])
        refine ⟨b :: bs',⟨some ⟨b,0,none⟩,cap,rfl,⟨hcap,hmax,hnil,hadr⟩,.inr ⟨b,vs,bs',rfl,rfl,fun hin=>?_,⟨cur,T,g2,fun j v hv=>?_⟩,hsz,k1⟩⟩,fun x hx=>?_⟩
        · obtain ⟨u,hu,e,r,h3⟩:=k2 b hin
          have:=h.tokd t (ht t (by simp)) u (ht u (by simp [hu])) _ _ _ _ _ _ hb h3 rfl
          subst this
          exact htn hu
        · have h1:=h.iok _ _ _ (hvI j v hv)
          simp only [World.cell?,g2,Nat.zero_add] at h1
          simpa using h1
        · simp only [List.mem_cons] at hx
          rcases hx with rfl|hx
          · exact ⟨t,by simp,_,_,hb⟩
          · obtain ⟨u,hu,e,r,h3⟩:=k2 x hx
            exact ⟨u,by simp [hu],e,r,h3⟩
theorem trees_of {xs : List (List DV)} (h : St E objs toks nt I τ ρ w) : ∀ {vs : List Value} {ts : List Nat},RepL I τ xs.flatten vs → ownLL xs ts → (∀ t ∈ ts,t ∈ toks) → ∃ bs,TreeLL w xs vs bs ∧ ofToks τ ts bs:=by
  intro vs ts hr ho ht
  cases xs with
  | nil =>
    have : vs = []:=by have:=hr.1;simpa using this.symm
    exact ⟨[],⟨this,rfl⟩,fun b hb=>by simp at hb⟩
  | cons x xs =>
    simp only [ownLL] at ho
    obtain ⟨t1,t2,rfl,hd,h1,h2⟩:=ho
    simp only [List.flatten_cons] at hr
    have ha : RepL I τ x (vs.take x.length):=by have:=hr.take x.length;rwa [List.take_left'] at this;rfl
    have hb : RepL I τ xs.flatten (vs.drop x.length):=by have:=hr.drop x.length;rwa [List.drop_left'] at this;rfl
    obtain ⟨b1,k1,k2⟩:=treel_of h ha h1 fun u hu=>ht u (by simp [hu])
    obtain ⟨b2,k3,k4⟩:=trees_of h hb h2 fun u hu=>ht u (by simp [hu])
    refine ⟨b1 ++ b2,⟨_,_,b1,b2,(List.take_append_drop x.length vs).symm,rfl,ofToks.disj hd h.tokd (fun u hu=>ht u (by simp [hu])) (fun u hu=>ht u (by simp [hu])) k2 k4,k1,k3⟩,fun b hb=>?_⟩
    rcases List.mem_append.1 hb with hb|hb
    · obtain ⟨u,hu,z⟩:=k2 b hb;exact ⟨u,by simp [hu],z⟩
    · obtain ⟨u,hu,z⟩:=k4 b hb;exact ⟨u,by simp [hu],z⟩
theorem treel_of {xs : List DV} (h : St E objs toks nt I τ ρ w) : ∀ {vs : List Value} {ts : List Nat},RepL I τ xs vs → ownL xs ts → (∀ t ∈ ts,t ∈ toks) → ∃ bs,TreeL w xs vs bs ∧ ofToks τ ts bs:=by
  intro vs ts hr ho ht
  cases xs with
  | nil =>
    have : vs = []:=by have:=hr.1;simpa using this.symm
    exact ⟨[],⟨this,rfl⟩,fun b hb=>by simp at hb⟩
  | cons x xs =>
    simp only [ownL] at ho
    obtain ⟨t1,t2,rfl,hd,h1,h2⟩:=ho
    obtain ⟨v,us,rfl,hx,hxs⟩:=d7 hr
    obtain ⟨b1,k1,k2⟩:=tree_of h hx h1 fun u hu=>ht u (by simp [hu])
    obtain ⟨b2,k3,k4⟩:=treel_of h hxs h2 fun u hu=>ht u (by simp [hu])
    refine ⟨b1 ++ b2,⟨v,us,b1,b2,rfl,rfl,ofToks.disj hd h.tokd (fun u hu=>ht u (by simp [hu])) (fun u hu=>ht u (by simp [hu])) k2 k4,k1,k3⟩,fun b hb=>?_⟩
    rcases List.mem_append.1 hb with hb|hb
    · obtain ⟨u,hu,z⟩:=k2 b hb;exact ⟨u,by simp [hu],z⟩
    · obtain ⟨u,hu,z⟩:=k4 b hb;exact ⟨u,by simp [hu],z⟩
end
end
mutual
theorem RepD.only {I I' : IH} {τ : TH} {c : DV} : ∀ {v : Value} {ts : List Nat},RepD I τ c v → ownD c ts → (∀ t ∈ ts,∀ b e r,τ t = some (b,e,r) → ∀ o,I' b o = I b o) → RepD I' τ c v:=by
  intro v ts hr ho ht
  cases c with
  | int k n=>cases hr;exact .int k n
  | bool b=>cases hr;exact .bool b
  | str s=>cases hr with|str _ hs=>exact .str s hs
  | pin c v=>simp only [ownD] at ho
  | sl sz xs own =>
    simp only [ownD] at ho
    have hr0:=hr
    cases hr with
    | sl _ _ _ a cap vals hsz hcap hmax hnil hadr hI hrep hown =>
    rcases ho with ⟨rfl,rfl⟩|⟨t,ts',rfl,rfl,htn,hol⟩
    · exact .sl sz [] own a cap vals (by simp) hcap hmax hnil hadr (by simp) (by simp) hown
    · rcases hown with h0|⟨b,hb,rfl⟩
      · have hx : xs = []:=List.eq_nil_of_length_eq_zero (by omega)
        subst hx
        exact .sl sz [] _ a cap vals (by simp) hcap hmax hnil hadr (by simp) (by simp) (.inl h0)
      · obtain ⟨_,vs,hvl,hvI,hvr⟩:=fO hr0
        have:=eW (I:=I') (τ:=τ) (sz:=sz) (zs:=xs) (own:=.tok t) (adr:=⟨b,0,none⟩) (cap:=cap) (vs:=vs) hsz rfl hcap hmax (fun j v hv=>by
          have h1:=hvI j v hv
          rw [← h1]
          exact ht t (by simp) b _ _ hb _) (RepLL.only hvr hol fun u hu=>ht u (by simp [hu])) (.inr ⟨b,hb,rfl⟩)
        exact this
theorem RepLL.only {I I' : IH} {τ : TH} {xs : List (List DV)} : ∀ {vs : List Value} {ts : List Nat},RepL I τ xs.flatten vs → ownLL xs ts → (∀ t ∈ ts,∀ b e r,τ t = some (b,e,r) → ∀ o,I' b o = I b o) → RepL I' τ xs.flatten vs:=by
  intro vs ts hr ho ht
  cases xs with
  | nil =>
    have : vs = []:=by have:=hr.1;simpa using this.symm
    subst this
    exact RepL.nil I' τ
  | cons x xs =>
    simp only [ownLL] at ho
    obtain ⟨t1,t2,rfl,hd,h1,h2⟩:=ho
    simp only [List.flatten_cons] at hr ⊢
    have ha : RepL I τ x (vs.take x.length):=by have:=hr.take x.length;rwa [List.take_left'] at this;rfl
    have hb : RepL I τ xs.flatten (vs.drop x.length):=by have:=hr.drop x.length;rwa [List.drop_left'] at this;rfl
    have:=(RepL.only ha h1 fun u hu=>ht u (by simp [hu])).append (RepLL.only hb h2 fun u hu=>ht u (by simp [hu]))
    rwa [List.take_append_drop] at this
theorem RepL.only {I I' : IH} {τ : TH} {xs : List DV} : ∀ {vs : List Value} {ts : List Nat},RepL I τ xs vs → ownL xs ts → (∀ t ∈ ts,∀ b e r,τ t = some (b,e,r) → ∀ o,I' b o = I b o) → RepL I' τ xs vs:=by
  intro vs ts hr ho ht
  cases xs with
  | nil =>
    have : vs = []:=by have:=hr.1;simpa using this.symm
    subst this
    exact RepL.nil I' τ
  | cons x xs =>
    simp only [ownL] at ho
    obtain ⟨t1,t2,rfl,hd,h1,h2⟩:=ho
    obtain ⟨v,us,rfl,hx,hxs⟩:=d7 hr
    exact RepL.cons (RepD.only hx h1 fun u hu=>ht u (by simp [hu])) (RepL.only hxs h2 fun u hu=>ht u (by simp [hu]))
end
end Go.AL
namespace Go.AL
open Go
set_option linter.unusedSimpArgs false
set_option linter.unusedVariables false
def DV.pn (v : Value) : DV → DV
  | .sl sz xs _=>.pin (.sl sz (erLL xs) .no) v
  | .pin c _=>.pin c.er v
  | c=>c
def pnL (g : Nat → Value) : Nat → List DV → List DV
  | _,[]=>[]
  | i,c :: cs=>c.pn (g i) :: pnL g (i + 1) cs
def AV.pn (g : Nat → Value) : AV → AV
  | .d c=>.d (c.pn (g 0))
  | .agg cs=>.agg (pnL g 0 cs)
  | .ptr o off=>.ptr o off
  | _=>.unk
def AO.pn (g : Nat → Value) : AO → AO
  | .cells cs=>.cells (pnL g 0 cs)
  | _=>.gone
def pnE (g : Nat → Nat → Value) : List (Nat × AV) → List (Nat × AV)
  | []=>[]
  | p :: l=>(p.1,p.2.pn (g p.1)) :: pnE g l
def pnO (g : Nat → Nat → Value) : Nat → List AO → List AO
  | _,[]=>[]
  | i,o :: l=>o.pn (g i) :: pnO g (i + 1) l
def DV.pins (I : IH) : DV → Prop
  | .pin c v=>RepD I (fun _=>none) c v
  | _=>True
def pinsL (I : IH) : List DV → Prop
  | []=>True
  | c :: cs=>c.pins I ∧ pinsL I cs
def AV.pins (I : IH) : AV → Prop
  | .d c=>c.pins I
  | .agg cs=>pinsL I cs
  | _=>True
def AO.pins (I : IH) : AO → Prop
  | .cells cs=>pinsL I cs
  | _=>True
def pinsE (I : IH) : List (Nat × AV) → Prop
  | []=>True
  | p :: l=>p.2.pins I ∧ pinsE I l
def pinsO (I : IH) : List AO → Prop
  | []=>True
  | o :: l=>o.pins I ∧ pinsO I l
theorem RepD.noTok {I : IH} {τ τ' : TH} : ∀ {c : DV} {v : Value},RepD I τ c v → RepD I τ' c.er v:=by
  intro c v h
  induction h with
  | int k n=>exact .int k n
  | bool b=>exact .bool b
  | str s hs=>exact .str s hs
  | pin c v _ ih=>exact ih
  | sl sz xs own a cap vals hsz hcap hmax hnil hadr hI _ hown ih =>
    have hl : (erLL xs).length = xs.length:=by rw [cY];simp
    have hget : ∀ (i : Nat) x (j : Nat) c,(erLL xs)[i]? = some x → x[j]? = some c → ∃ x' c',xs[i]? = some x' ∧ x'[j]? = some c' ∧ c = c'.er:=by
      intro i x j c hx hc
      rw [cY,List.getElem?_map,Option.map_eq_some_iff] at hx
      obtain ⟨x',hx',rfl⟩:=hx
      rw [gC,List.getElem?_map,Option.map_eq_some_iff] at hc
      obtain ⟨c',hc',rfl⟩:=hc
      exact ⟨x',c',hx',hc',rfl⟩
    have:=RepD.sl (I:=I) (τ:=τ') sz (erLL xs) .no a cap vals ?_ (by rw [hl];exact hcap) hmax hnil hadr ?_ ?_ trivial
    · rw [hl] at this
      exact this
    · intro x hx
      rw [cY] at hx
      obtain ⟨x',hx',rfl⟩:=List.mem_map.1 hx
      rw [gC,List.length_map]
      exact hsz x' hx'
    · intro adr ha i x j c hx hc
      obtain ⟨x',c',h1,h2,_⟩:=hget i x j c hx hc
      exact hI adr ha i x' j c' h1 h2
    · intro i x j c hx hc
      obtain ⟨x',c',h1,h2,rfl⟩:=hget i x j c hx hc
      exact ih i x' j c' h1 h2
theorem RepD.pn {I : IH} {τ : TH} {c : DV} {v : Value} (h : RepD I τ c v) : RepD I (fun _=>none) (c.pn v) v:=by
  cases c with
  | int k n=>cases h;exact .int k n
  | bool b=>cases h;exact .bool b
  | str s=>cases h with|str _ hs=>exact .str s hs
  | sl sz xs own=>exact .pin _ _ h.noTok
  | pin c u =>
    cases h with
    | pin _ _ h=>exact .pin _ _ h.noTok
theorem RepL.pn {I : IH} {τ : TH} {g : Nat → Value} : ∀ {cs : List DV} {vs : List Value} {i : Nat},RepL I τ cs vs → (∀ (j : Nat) v,vs[j]? = some v → g (i + j) = v) → RepL I (fun _=>none) (pnL g i cs) vs
  | [],vs,i,h,_=>by
    have : vs = []:=by have:=h.1;simpa using this.symm
    subst this
    exact RepL.nil I _
  | c :: cs,vs,i,h,hg=>by
    obtain ⟨v,us,rfl,hx,hxs⟩:=d7 h
    have h0:=hg 0 v (by simp)
    rw [Nat.add_zero] at h0
    simp only [pnL,h0]
    exact RepL.cons hx.pn (RepL.pn hxs fun j u hu=>by have:=hg (j + 1) u (by simpa using hu);rwa [show i + 1 + j = i + (j + 1) by omega])
theorem RepA.pn {I : IH} {τ : TH} {ρ : Nat → Nat} {n : Nat} {v : AV} {x : Value} {g : Nat → Value} (h : RepA I τ ρ n v x) (hg : ∀ (j : Nat) u,x.cells.toList[j]? = some u → g j = u) : RepA I (fun _=>none) ρ n (v.pn g) x:=by
  cases h with
  | d c v hd =>
    have h0 : g 0 = x:=hg 0 x (by rw [hd.cells];rfl)
    simp only [AV.pn,h0]
    exact .d _ _ hd.pn
  | agg cs vs hl=>exact .agg _ _ (RepL.pn hl fun j u hu=>by rw [Nat.zero_add];exact hg j u hu)
  | ptr o off ho=>exact .ptr o off ho
  | _=>exact .unk _
theorem RepD.pinsOf {I : IH} {c : DV} {v : Value} (h : RepD I (fun _=>none) c v) : c.pins I:=by
  cases h with
  | pin c v h=>exact h
  | _=>trivial
theorem RepL.pinsOf {I : IH} : ∀ {cs : List DV} {vs : List Value},RepL I (fun _=>none) cs vs → pinsL I cs
  | [],_,_=>trivial
  | c :: cs,vs,h=>by
    obtain ⟨v,us,rfl,hx,hxs⟩:=d7 h
    exact ⟨hx.pinsOf,RepL.pinsOf hxs⟩
theorem RepA.pinsOf {I : IH} {ρ : Nat → Nat} {n : Nat} {v : AV} {x : Value} (h : RepA I (fun _=>none) ρ n v x) : v.pins I:=by
  cases h with
  | d c v hd=>exact hd.pinsOf
  | agg cs vs hl=>exact hl.pinsOf
  | _=>trivial
def QB (rt : Nat) : Exit → AS → Prop
  | .normal,s|.ret,s=>getE s.env rt = .d (.bool true)
  | _,_=>False
attribute [go_sem] pickE pnE pnO DV.pn pnL AV.pn AO.pn
end Go.AL
namespace Go.AL
open Go
set_option linter.unusedSimpArgs false
set_option linter.unusedVariables false
structure FrameW (F : List Nat) (w w' : World) : Prop where
  size : w.heap.size ≤ w'.heap.size
  same : ∀ b,b < w.heap.size → b ∉ F → w'.heap[b]? = w.heap[b]?
  os : w'.os = w.os
  tape : w'.tape = w.tape
  output : w'.output = w.output
theorem FrameW.refl (F : List Nat) (w : World) : FrameW F w w:=⟨Nat.le_refl _,fun _ _ _=>rfl,rfl,rfl,rfl⟩
theorem FrameW.trans {F : List Nat} {w w' w'' : World} (h : FrameW F w w') (h' : FrameW F w' w'') : FrameW F w w'' :=
  ⟨Nat.le_trans h.size h'.size,fun b hb hn=>(h'.same b (Nat.lt_of_lt_of_le hb h.size) hn).trans (h.same b hb hn),h'.os.trans h.os,h'.tape.trans h.tape,h'.output.trans h.output⟩
theorem FrameW.mono {F F' : List Nat} {w w' : World} (h : FrameW F w w') (hf : ∀ b ∈ F,b ∈ F') : FrameW F' w w' :=
  ⟨h.size,fun b hb hn=>h.same b hb fun hi=>hn (hf b hi),h.os,h.tape,h.output⟩
def TreeA (w : World) : AV → Value → List Nat → Prop
  | .d c,v,bs=>TreeV w c v bs
  | .agg cs,v,bs=>∃ vs,v = .agg (List.toArray vs) ∧ TreeL w cs vs bs
  | _,_,_=>False
def MarkF (P : Program) (g : FuncId) (d d' : AV) (k k' : Int) : Prop :=
  CallOK P g ∧ ∀ (w : World) (v : Value) (bs : List Nat),TreeA w d v bs → Calls P g [v,Value.int .i64 k].toArray w fun e w'=>e = .returned (.int .i64 k') ∧ TreeA w' d' v bs ∧ FrameW bs w w'
mutual
theorem TreeV.er {w : World} : ∀ {c : DV} {v : Value} {bs : List Nat},TreeV w c v bs → TreeV w c.er v bs
  | .int _ _,_,_,h=>h
  | .bool _,_,_,h=>h
  | .str _,_,_,h=>h
  | .pin _ _,_,_,h=>by simp only [TreeV] at h
  | .sl sz xs o,v,bs,h=>by
    simp only [TreeV,DV.er] at h ⊢
    have hl : (erLL xs).length = xs.length:=by rw [cY];simp
    obtain ⟨a,cap,h1,h2,h3⟩:=h
    refine ⟨a,cap,by rw [hl];exact h1,by rw [hl];exact h2,?_⟩
    rcases h3 with ⟨rfl,h3⟩|⟨b,vs,bs',h3,rfl,h5,h6,h7,h8⟩
    · exact .inl ⟨rfl,h3⟩
    · refine .inr ⟨b,vs,bs',h3,rfl,h5,h6,fun x hx=>?_,TreeLL.er h8⟩
      rw [cY] at hx
      obtain ⟨x',hx',rfl⟩:=List.mem_map.1 hx
      rw [gC,List.length_map]
      exact h7 x' hx'
theorem TreeLL.er {w : World} : ∀ {c : List (List DV)} {v : List Value} {bs : List Nat},TreeLL w c v bs → TreeLL w (erLL c) v bs
  | [],_,_,h=>h
  | x :: xs,v,bs,h=>by
    simp only [TreeLL,erLL] at h ⊢
    obtain ⟨v1,v2,b1,b2,rfl,rfl,hd,h1,h2⟩:=h
    exact ⟨v1,v2,b1,b2,rfl,rfl,hd,TreeL.er h1,TreeLL.er h2⟩
theorem TreeL.er {w : World} : ∀ {c : List DV} {v : List Value} {bs : List Nat},TreeL w c v bs → TreeL w (erL c) v bs
  | [],_,_,h=>h
  | x :: xs,v,bs,h=>by
    simp only [TreeL,erL] at h ⊢
    obtain ⟨v1,v2,b1,b2,rfl,rfl,hd,h1,h2⟩:=h
    exact ⟨v1,v2,b1,b2,rfl,rfl,hd,TreeV.er h1,TreeL.er h2⟩
end
theorem TreeA.er {w : World} {d : AV} {v : Value} {bs : List Nat} (h : TreeA w d v bs) : TreeA w d.er v bs:=by
  cases d with
  | d c=>exact TreeV.er h
  | agg cs=>obtain ⟨vs,h1,h2⟩:=h;exact ⟨vs,h1,h2.er⟩
  | _=>exact h.elim
def keepD (I0 : IH) (T : List Nat) : DV → Prop
  | .pin c v=>RepD I0 (fun _=>none) c v
  | .sl sz xs own=>∃ ts,ownD (.sl sz xs own) ts ∧ ∀ t ∈ ts,t ∈ T
  | _=>True
def keepL (I0 : IH) (T : List Nat) : List DV → Prop
  | []=>True
  | c :: cs=>keepD I0 T c ∧ keepL I0 T cs
def keepA (I0 : IH) (T : List Nat) : AV → Prop
  | .d c=>keepD I0 T c
  | .agg cs=>keepL I0 T cs
  | .ptr _ _=>True
  | .unk=>True
  | _=>False
def keepO (I0 : IH) (T : List Nat) : AO → Prop
  | .cells cs=>keepL I0 T cs
  | .map _=>False
  | .gone=>True
def keepE (I0 : IH) (T : List Nat) : List (Nat × AV) → Prop
  | []=>True
  | p :: l=>keepA I0 T p.2 ∧ keepE I0 T l
def keepOs (I0 : IH) (T : List Nat) : List AO → Prop
  | []=>True
  | o :: l=>keepO I0 T o ∧ keepOs I0 T l
open Classical in
noncomputable def seenI (I : IH) (bs : List Nat) (w' : World) : IH:=fun b o=>if b ∈ bs then w'.cell? ⟨b,o,none⟩ else I b o
section
variable {E : Ent} {objs : List AO} {toks : List Nat} {nt : Nat} {I : IH} {τ : TH} {ρ : Nat → Nat} {w w' : World} {bs ts T : List Nat}
theorem seenI_in {b o : Nat} (h : b ∈ bs) : seenI I bs w' b o = w'.cell? ⟨b,o,none⟩:=by simp [seenI,h]
theorem seenI_out {b o : Nat} (h : b ∉ bs) : seenI I bs w' b o = I b o:=by simp [seenI,h]
theorem blocks_new (h : St E objs toks nt I τ ρ w) (hbs : ofToks τ ts bs) (hts : ∀ t ∈ ts,t ∈ toks) : ∀ b ∈ bs,E.w0.heap.size ≤ b ∧ b < w.heap.size ∧ ∀ i,i < objs.length → ρ i ≠ b:=fun b hb=>by
  obtain ⟨t,ht,e,r,h1⟩:=hbs b hb
  obtain ⟨_,g⟩:=h.tok t (hts t ht)
  obtain ⟨g1,⟨cur,T,g2,_⟩,_,g4⟩:=g _ _ _ h1
  exact ⟨g1,(Array.getElem?_eq_some_iff.1 g2).1,g4⟩
theorem St.marked (h : St E objs toks nt I τ ρ w) (hbs : ofToks τ ts bs) (hts : ∀ t ∈ ts,t ∈ toks) (hT : ∀ t ∈ T,t ∈ toks) (hd : Disj T ts) (hF : FrameW bs w w') {objs' : List AO} (hl : objs'.length = objs.length)
    (hobj : ∀ (i : Nat) o,objs'[i]? = some o → RepO (seenI I bs w') τ o (w'.heap[ρ i]?)) : St E objs' T nt (seenI I bs w') τ ρ w':=by
  have hnew:=blocks_new h hbs hts
  have hold : ∀ b,b < E.w0.heap.size → b ∉ bs:=fun b hb hin=>by have:=(hnew b hin).1;omega
  have hobn : ∀ i,i < objs.length → ρ i ∉ bs:=fun i hi hin=>(hnew _ hin).2.2 i hi rfl
  refine ⟨fun b o v hv=>?_,hobj,fun i hi=>?_,fun i j hi hj=>h.inj i j (by omega) (by omega),fun t ht=>?_,fun t ht u hu=>h.tokd t (hT t ht) u (hT u hu),hF.os.trans h.os,hF.tape.trans h.tape,hF.output.trans h.output,Nat.le_trans h.size hF.size,fun b hb hi=>?_,fun b hb o=>?_,h.rho,fun i hi hj=>h.fresh i hi (by omega),h.tau,by rw [hl];exact h.len,h.ntle,h.i0,h.tn⟩
  · by_cases hin : b ∈ bs
    · rwa [seenI_in hin] at hv
    · rw [seenI_out hin] at hv
      have h1:=h.iok b o v hv
      have h2:=h.lt_of_I hv
      simpa [World.cell?,hF.same b h2 hin] using h1
  · rw [hl] at hi
    refine ⟨Nat.lt_of_lt_of_le (h.objI i hi).1 hF.size,fun off=>?_⟩
    rw [seenI_out (hobn i hi)]
    exact (h.objI i hi).2 off
  · obtain ⟨g1,g⟩:=h.tok t (hT t ht)
    refine ⟨g1,fun b e r hb=>?_⟩
    obtain ⟨k1,⟨cur,T',k2,k3⟩,k4,k5⟩:=g b e r hb
    have hin : b ∉ bs:=fun hin=>by
      obtain ⟨u,hu,e',r',h3⟩:=hbs b hin
      have:=h.tokd t (hT t ht) u (hts u hu) _ _ _ _ _ _ hb h3 rfl
      subst this
      exact hd t ht hu
    refine ⟨k1,⟨cur,T',?_,k3⟩,fun o ho=>?_,fun i hi=>k5 i (by omega)⟩
    · rw [hF.same b (Array.getElem?_eq_some_iff.1 k2).1 hin];exact k2
    · rw [seenI_out hin];exact k4 o ho
  · rw [hF.same b (Nat.lt_of_lt_of_le hb h.size) (hold b hb)]
    exact h.blk b hb hi
  · rw [seenI_out (hold b hb)]
    exact h.ifr b hb o
end
theorem put_at {a : Act} {n d : Nat} {x : Value} (hs : a.tmps.size = n) (hd : d < n) : (a.put (some d) x).tmps.getD d undef = x:=by rw [Act.getD_put a d x d (by omega),if_pos rfl]
theorem put_ne {a : Act} {n d t : Nat} {x : Value} (hs : a.tmps.size = n) (hd : d < n) (hne : t ≠ d) : (a.put (some d) x).tmps.getD t undef = a.tmps.getD t undef:=by rw [Act.getD_put a d x t (by omega),if_neg hne]
theorem put_size {a : Act} {n d : Nat} {x : Value} (hs : a.tmps.size = n) : (a.put (some d) x).tmps.size = n:=by simp [Act.put,hs]
theorem put_defers {a : Act} {d : Nat} {x : Value} (hs : a.defers = []) : (a.put (some d) x).defers = []:=by simpa [Act.put] using hs
def offB (L : List Nat) (t : Nat) : Bool:=!L.contains t
end Go.AL
namespace Go.AL
open Go
set_option linter.unusedSimpArgs false
set_option linter.unusedVariables false
def getP : List (Nat × Value) → Nat → Option Value
  | [],_=>none
  | p :: l,t=>if t = p.1 then some p.2 else getP l t
structure PS (n : Nat) (env : List (Nat × Value)) (M : World → Prop) (a : Act) (w : World) : Prop where
  sz : a.tmps.size = n
  df : a.defers = []
  ev : ∀ t v,getP env t = some v → a.tmps.getD t undef = v
  m : M w
def pev (env : List (Nat × Value)) : Operand → Option Value
  | .tmp t=>getP env t
  | .const v=>some v
  | _=>none
theorem PS.eval {n : Nat} {env : List (Nat × Value)} {M : World → Prop} {a : Act} {w : World} (h : PS n env M a w) {x : Operand} {v : Value} (hx : pev env x = some v) : a.eval x = v:=by
  cases x with
  | tmp t=>exact h.ev t v hx
  | const c=>simp only [pev,Option.some.injEq] at hx;subst hx;rfl
  | _=>cases hx
theorem PS.put {n : Nat} {env : List (Nat × Value)} {M M' : World → Prop} {a : Act} {w w' : World} (h : PS n env M a w) {d : Nat} (hd : d < n) (v : Value) (hm : M' w') : PS n ((d,v) :: env) M' (a.put (some d) v) w':=by
  refine ⟨put_size h.sz,put_defers h.df,fun t u ht=>?_,hm⟩
  simp only [getP] at ht
  split at ht
  · rename_i e
    subst e
    cases ht
    exact put_at h.sz hd
  · rename_i e
    rw [put_ne h.sz hd e]
    exact h.ev t u ht
theorem PS.sub {n : Nat} {env env' : List (Nat × Value)} {M M' : World → Prop} {a : Act} {w : World} (h : PS n env M a w) (he : ∀ p ∈ env',getP env p.1 = some p.2) (hm : ∀ w,M w → M' w) : PS n env' M' a w:=by
  refine ⟨h.sz,h.df,fun t v ht=>?_,hm w h.m⟩
  have key : ∀ l : List (Nat × Value),(∀ p ∈ l,getP env p.1 = some p.2) → getP l t = some v → getP env t = some v:=by
    intro l
    induction l with
    | nil=>intro _ h;cases h
    | cons p l ih =>
      intro hl hg
      simp only [getP] at hg
      split at hg
      · rename_i e;cases hg;rw [e];exact hl p (by simp)
      · exact ih (fun q hq=>hl q (by simp [hq])) hg
  exact h.ev t v (key env' he ht)
def PW (P : Program) (n : Nat) (c : Code) (Q : Exit → Act → World → Prop) (env : List (Nat × Value)) (M : World → Prop) : Prop:=∀ a w,PS n env M a w → c.wp P Q a w
def PR (P : Program) (n : Nat) (all : Array Oper) (l : List Oper) (Q : Exit → Act → World → Prop) (env : List (Nat × Value)) (M : World → Prop) : Prop:=∀ a w,PS n env M a w → wpList P all Q l a w
def PQ (n : Nat) (Q : Exit → Act → World → Prop) (e : Exit) (env : List (Nat × Value)) (M : World → Prop) : Prop:=∀ a w,PS n env M a w → Q e a w
section
variable {P : Program} {n : Nat} {Q : Exit → Act → World → Prop} {env : List (Nat × Value)} {M : World → Prop}
variable {all : Array Oper} {rest : List Oper} {y : TypeId} {p : String} {f : Array Edge} {d : Nat} {x x2 : Operand}
end
mutual
theorem TreeV.lt {w : World} : ∀ {c : DV} {v : Value} {bs : List Nat},TreeV w c v bs → ∀ b ∈ bs,b < w.heap.size
  | .int _ _,_,_,h,b,hb=>by simp only [TreeV] at h;rw [h.2] at hb;simp at hb
  | .bool _,_,_,h,b,hb=>by simp only [TreeV] at h;rw [h.2] at hb;simp at hb
  | .str _,_,_,h,b,hb=>by simp only [TreeV] at h;rw [h.2] at hb;simp at hb
  | .pin _ _,_,_,h,_,_=>by simp only [TreeV] at h
  | .sl sz xs o,v,bs,h,x,hx=>by
    simp only [TreeV] at h
    obtain ⟨a,cap,h1,h2,⟨_,rfl⟩|⟨b,vs,bs',h3,rfl,h5,⟨arr,T,h6,_⟩,h7,h8⟩⟩:=h
    · simp at hx
    · simp only [List.mem_cons] at hx
      rcases hx with rfl|hx
      · exact (Array.getElem?_eq_some_iff.1 h6).1
      · exact TreeLL.lt h8 x hx
theorem TreeLL.lt {w : World} : ∀ {c : List (List DV)} {v : List Value} {bs : List Nat},TreeLL w c v bs → ∀ b ∈ bs,b < w.heap.size
  | [],_,_,h,b,hb=>by simp only [TreeLL] at h;rw [h.2] at hb;simp at hb
  | x :: xs,v,bs,h,b,hb=>by
    simp only [TreeLL] at h
    obtain ⟨v1,v2,b1,b2,rfl,rfl,hd,h1,h2⟩:=h
    rcases List.mem_append.1 hb with hb|hb
    · exact TreeL.lt h1 b hb
    · exact TreeLL.lt h2 b hb
theorem TreeL.lt {w : World} : ∀ {c : List DV} {v : List Value} {bs : List Nat},TreeL w c v bs → ∀ b ∈ bs,b < w.heap.size
  | [],_,_,h,b,hb=>by simp only [TreeL] at h;rw [h.2] at hb;simp at hb
  | x :: xs,v,bs,h,b,hb=>by
    simp only [TreeL] at h
    obtain ⟨v1,v2,b1,b2,rfl,rfl,hd,h1,h2⟩:=h
    rcases List.mem_append.1 hb with hb|hb
    · exact TreeV.lt h1 b hb
    · exact TreeL.lt h2 b hb
end
def isSc : DV → Bool
  | .int _ _=>true
  | .bool _=>true
  | .str _=>true
  | _=>false
def scal : DV → Value → Prop
  | .int k n,v=>v = .int k n
  | .bool b,v=>v = .bool b
  | .str s,v=>v = .string ⟨s.toArray⟩ ∧ s.length ≤ 9223372036854775807
  | _,_=>False
def MT (w0 : World) (F : List Nat) (b : Nat) (bs : List Nat) (ds : List DV) (w : World) : Prop:=∃ vs,cellsAt w b vs ∧ TreeL w ds vs bs ∧ b ∉ bs ∧ FrameW F w0 w
theorem MT.ext {w0 : World} {F : List Nat} {b : Nat} {bs : List Nat} {ds : List DV} {w w' : World} (hF : FrameW [] w w') (h : MT w0 F b bs ds w) : MT w0 F b bs ds w':=by
  obtain ⟨vs,h1,h2,h3,h4⟩:=h
  obtain ⟨arr,T,h5,_⟩:=id h1
  exact ⟨vs,h1.frame (hF.same b (Array.getElem?_eq_some_iff.1 h5).1 (by simp)),h2.frame fun x hx=>hF.same x (h2.lt x hx) (by simp),h3,h4.trans (hF.mono (by simp))⟩
section
variable {P : Program} {n : Nat} {Q : Exit → Act → World → Prop} {env : List (Nat × Value)} {all : Array Oper} {rest : List Oper} {y : TypeId} {p : String} {f : Array Edge} {x x2 : Operand} {w0 : World} {F bs : List Nat} {b : Nat} {pre cs post : List DV}
end
def MQ (rt : Nat) (k' : Int) (Φ : World → Prop) (e : Exit) (a : Act) (w : World) : Prop:=(e = .normal ∨ e = .ret) ∧ a.tmps.getD rt undef = .int .i64 k' ∧ a.defers = [] ∧ Φ w
def mkL {α : Type} (f : α → Int → α) (c : α → Int) : List α → Int → List α
  | [],_=>[]
  | x :: l,k=>f x k :: mkL f c l (k + c x)
def cnL {α : Type} (c : α → Int) : List α → Int
  | []=>0
  | x :: l=>c x + cnL c l
def mixD {α : Type} (enc : α → List DV) (f : α → Int → α) (c : α → Int) (l : List α) (k : Int) (i : Nat) : List DV:=((mkL f c (l.take i) k).map enc).flatten ++ ((l.drop i).map enc).flatten
end Go.AL
namespace Go.AL
open Go
set_option linter.unusedSimpArgs false
set_option linter.unusedVariables false
def ownA : AV → List Nat → Prop
  | .d c,t=>ownD c t
  | .agg cs,t=>ownL cs t
  | .tup [.d c,.d (.bool _)],t=>ownD c t
  | .tup [.agg cs,.d (.bool _)],t=>ownL cs t
  | _,_=>False
def OwnR (r : AV) (n : Nat) (v : AV) (o : List AO) (t : List Nat) (m : Nat) : Prop:=o = [] ∧ ownA v t ∧ (∀ x ∈ t,n ≤ x ∧ x < m) ∧ v.erR = r ∧ n ≤ m
def ownS (own : Own) (n nt : Nat) (e : Prop) : Prop:=(own = .full ∧ e) ∨ ∃ t,own = .tok t ∧ n ≤ t ∧ t < nt
end Go.AL
namespace Go.AL
open Go
structure Stop (p : Prop) : Prop where
  out : p
theorem Stop.go {P : Program} {E : Ent} {c : Code} {Q : Exit → AS → Prop} {s : AS} (h : Stop (AWp P E c Q s)) : AWp P E c Q s:=h.out
end Go.AL
namespace Go.AL
open Go
end Go.AL
namespace Go.AL
open Go
end Go.AL
namespace Go.AL
open Go
def MTV (w0 : World) (F : List Nat) (b : Nat) (bs : List Nat) (vs : List Value) (ds : List DV) (w : World) : Prop:=cellsAt w b vs ∧ TreeL w ds vs bs ∧ b ∉ bs ∧ FrameW F w0 w
section
variable {P : Program} {n : Nat} {Q : Exit → Act → World → Prop} {env : List (Nat × Value)} {all : Array Oper} {rest : List Oper} {y : TypeId} {p : String} {f : Array Edge} {x x2 : Operand} {w0 : World} {F bs : List Nat} {b : Nat} {pre cs post : List DV}
end
end Go.AL
namespace Go.AL
open Go
end Go.AL
namespace Go.AL
open Go
end Go.AL
namespace Go.AL
open Go
end Go.AL
set_option linter.unusedSimpArgs false
set_option linter.unusedVariables false
namespace Go.AL
open Go
end Go.AL
namespace Go.AL
open Go
def ownG (X : List (List DV)) (us : List Nat) (own : Own) (n nt : Nat) : Prop:=ownLL X us ∧ (∀ t ∈ us,n ≤ t ∧ t < nt) ∧ ownS own n nt (X = []) ∧ (∀ t ∈ tkOf own,t ∉ us) ∧ n ≤ nt
end Go.AL
namespace Go.AL
open Go
set_option linter.unusedSimpArgs false
set_option linter.unusedVariables false
section
variable {P : Program} {n : Nat} {Q : Exit → Act → World → Prop} {env : List (Nat × Value)} {all : Array Oper} {rest : List Oper} {y : TypeId} {p : String} {f : Array Edge} {x x2 : Operand} {w0 : World} {F bs : List Nat} {b : Nat} {pre cs post : List DV}
end
end Go.AL
namespace Go.AL
open Go
set_option linter.unusedSimpArgs false
set_option linter.unusedVariables false
def Sem (P : Program) (E : Ent) (all : Array Oper) (l : List Oper) (Q : Exit → AS → Prop) (s : AS) : Prop :=
  (l.all fun o=>o.dst.all fun d=>decide (d < E.n)) = true → ∀ (a : Act) (w : World),Sim E s a w → wpList P all (fun e a' w'=>∃ s',Q e s' ∧ Sim E s' a' w') l a w
theorem rvc_soundS {P : Program} {TT : Tab P} {E : Ent} {all : Array Oper} {K : AS → Prop} {Q : Exit → Act → World → Prop} {suf : List Oper} (hq : ∀ s' a' w',K s' → Sim E s' a' w' → wpList P all Q suf a' w') :
    ∀ (rest : List Oper) (s : AS) (a : Act) (w : World),(rest.all fun o=>o.dst.all fun d=>decide (d < E.n)) = true → Sim E s a w → rvc TT E (all.toList.map (·.dst)) rest s K → wpList P all Q (rest ++ suf) a w:=by
  intro rest
  induction rest with
  | nil=>intro s a w _ hs h;exact hq s a w h hs
  | cons o rest ih =>
    intro s a w hd hs h
    obtain ⟨dst,op,ty,pos,after,guard⟩:=o
    simp only [List.all_cons,Bool.and_eq_true] at hd
    have hdst : ∀ d,dst = some d → d < E.n:=fun d hdd=>by
      have:=hd.1
      simp only [hdd,Option.all_some,decide_eq_true_eq] at this
      exact this
    have hstep:=step_ok (P:=P) (E:=E) (s:=s) (ty:=ty) TT op
    have go : ∀ (g : Option (Nat × Bool)),(match stp TT s op with
      | .ok pre fact v s'=>pre ∧ (fact → rvc TT E (all.toList.map (·.dst)) rest (s'.put dst v) K)
      | .call g args=>CallV P E s g args fun v s'=>rvc TT E (all.toList.map (·.dst)) rest (s'.put dst v) K
      | .stop=>False) → (Oper.mk dst op ty pos after g).wp P a w (wpList P all Q (rest ++ suf)) Q:=by
      intro g hr
      cases hst : stp TT s op with
      | ok pre fact v s' =>
        rw [hst] at hr hstep
        refine (hstep hr.1).wp hs hdst fun v0 s0 ⟨h1,h2,h3⟩ _ a' w' hs'=>?_
        subst h2;subst h3
        exact ih _ a' w' hd.2 hs' (hr.2 h1)
      | call f args =>
        rw [hst] at hr hstep
        exact (hstep _ hr).wp hs hdst fun v0 s0 hk _ a' w' hs'=>ih _ a' w' hd.2 hs' hk
      | stop=>rw [hst] at hr;exact hr.elim
    rw [List.cons_append]
    unfold wpList
    cases guard with
    | none =>
      rw [if_pos (by simp [Region.wanted])]
      exact .inl (go none h)
    | some jw =>
      obtain ⟨j,want⟩:=jw
      simp only [rvc] at h
      split at h
      · rename_i t ht
        split at h
        · rename_i b hb
          obtain ⟨I,τ,ρ,h1,h2⟩:=hs.ex
          have hv:=h2 t
          rw [hb] at hv
          have hbv:=eU hv
          have hy : yielded all a.tmps j = some b:=by
            simp only [List.getElem?_map,Array.getElem?_toList,Option.map_eq_some_iff] at ht
            obtain ⟨o,ho,hod⟩:=ht
            have hbv' : a.tmps[t]? = some (.bool b):=by
              simp only [Array.getD_eq_getD_getElem?] at hbv
              cases hq : a.tmps[t]? with
              | none=>rw [hq] at hbv;simp [undef] at hbv
              | some x=>rw [hq] at hbv;simpa using hbv
            simp [yielded,ho,hod,hbv']
          by_cases hw : b = want
          · rw [if_pos (by simp [Region.wanted,hy,hw])]
            exact .inl (go _ (h.1 hw))
          · rw [if_neg (by simp [Region.wanted,hy,hw])]
            refine ih _ _ w hd.2 ?_ (h.2 (by cases b<;>cases want<;>simp_all))
            exact (gE hs).sim dst hs.sz hs.df hdst
        · rename_i hb
          obtain ⟨I,τ,ρ,h1,h2⟩:=hs.ex
          have hv:=h2 t
          rw [hb] at hv
          have hbv:=rep_undef hv
          have hy : yielded all a.tmps j = none:=by
            simp only [List.getElem?_map,Array.getElem?_toList,Option.map_eq_some_iff] at ht
            obtain ⟨o,ho,hod⟩:=ht
            simp only [Array.getD_eq_getD_getElem?] at hbv
            cases hq : a.tmps[t]? with
            | none=>simp [yielded,ho,hod,hq]
            | some x=>rw [hq] at hbv;simp at hbv;subst hbv;simp [yielded,ho,hod,hq,undef]
          rw [if_neg (by simp [Region.wanted,hy])]
          exact ih _ _ w hd.2 ((gE hs).sim dst hs.sz hs.df hdst) h
        · exact h.elim
      · exact h.elim
section
variable {P : Program} {E : Ent} {all : Array Oper} {Q : Exit → AS → Prop} {s : AS} {rest l : List Oper} {dst : Option Nat} {ty : TypeId} {pos : String} {after : Array Edge}
theorem awp_regionS (TT : Tab P) {id : Nat} (k : Nat)
    (h : ∀ K : AS → Prop,(∀ s',Sem P E l.toArray (l.drop k) Q s' → K s') → rvc TT E (l.map (·.dst)) (l.take k) s K) : AWp P E (.region id l.toArray false) Q s:=fun hok a w hs=>by
  simp only [codeOK] at hok
  have hok' : (l.all fun o=>o.dst.all fun d=>decide (d < E.n)) = true:=by simpa using hok
  have h1 : ((l.take k).all fun o=>o.dst.all fun d=>decide (d < E.n)) = true:=List.all_eq_true.2 fun o ho=>List.all_eq_true.1 hok' o (List.mem_of_mem_take ho)
  have h2 : ((l.drop k).all fun o=>o.dst.all fun d=>decide (d < E.n)) = true:=List.all_eq_true.2 fun o ho=>List.all_eq_true.1 hok' o (List.mem_of_mem_drop ho)
  refine wp_region_lit ?_
  have key:=rvc_soundS (TT:=TT) (all:=l.toArray) (K:=Sem P E l.toArray (l.drop k) Q) (Q:=fun e a' w'=>∃ s',Q e s' ∧ Sim E s' a' w') (suf:=l.drop k) (fun s' a' w' hk hs'=>hk h2 a' w' hs') (l.take k) s a w h1 hs (by
    have:=h _ (fun _ h=>h)
    simpa using this)
  rw [List.take_append_drop] at key
  exact key
theorem awp_seqrS (TT : Tab P) {id : Nat} (k : Nat) {y : Code}
    (h : ∀ K : AS → Prop,(∀ s',Sem P E l.toArray (l.drop k) (AThen (AWp P E y Q) Q) s' → K s') → rvc TT E (l.map (·.dst)) (l.take k) s K) : AWp P E (.seq (.region id l.toArray false) y) Q s :=
  bC (awp_regionS TT k h)
theorem sem_nil (h : Q .normal s) : Sem P E all [] Q s:=fun _ a w hs=>wpList_nil ⟨s,h,hs⟩
theorem sem_op {op : Op} {K : AV → AS → Prop} (h : OpOK P E s op ty K) (hK : ∀ v s',K v s' → Sem P E all rest Q (s'.put dst v)) : Sem P E all (⟨dst,op,ty,pos,after,none⟩ :: rest) Q s:=fun hd a w hs=>by
  simp only [List.all_cons,Bool.and_eq_true] at hd
  have hdst : ∀ d,dst = some d → d < E.n:=fun d hdd=>by
    have:=hd.1
    simp only [hdd,Option.all_some,decide_eq_true_eq] at this
    exact this
  exact wpList_plain rfl fun K' hK'=>h.wp hs hdst fun v s' hk _ a' w' hs'=>hK' _ _ (hK v s' hk hd.2 a' w' hs')
theorem sem_call {f : Operand} {args : Array Operand} {tys : Array TypeId} {g : FuncId} {argsA : List AV} {R : Nat → AV → List AO → List Nat → Nat → Prop} (hac : AC P g argsA [] R) (hf : ev s f = .fn g []) (hargs : args.toList.map (ev s) = argsA) (hsc : (argsA.all fun v=>v.scopedT 0) = true)
    (hK : ∀ r os ts m,R s.nt r os ts m → s.nt ≤ m → Sem P E all rest Q (({ s with objs:=c7 s.objs [] os,toks:=ts ++ s.toks,nt:=m } : AS).put dst (r.rn [] s.objs.length))) : Sem P E all (⟨dst,.call ⟨.value f,args,tys⟩,ty,pos,after,none⟩ :: rest) Q s:=by
  have hac' : AC P g argsA [] fun n v o t m=>R n v o t m ∧ n ≤ m :=
    ⟨hac.call,fun E vs h1 h2 h3=>(hac.run E vs h1 h2 h3).mono fun _ _ ⟨x,he,r,o,t,m,I,τ,ρ,hR,hS,hA⟩=>⟨x,he,r,o,t,m,I,τ,ρ,⟨hR,hS.ntle⟩,hS,hA⟩⟩
  have hid : argsA.map (AV.rn [] s.objs.length) = argsA:=by
    conv=>rhs;rw [← List.map_id argsA]
    refine List.map_congr_left fun v hv=>rn_nil ?_
    rw [List.all_eq_true] at hsc
    exact hsc v hv
  refine sem_op (K:=fun v s'=>Sem P E all rest Q (s'.put dst v)) (op_call hf ?_) fun v s' h=>h
  rw [hargs]
  simp only [capsV,List.map_nil,List.append_nil]
  exact callV_ac [] [] hac' rfl List.nodup_nil (fun _ _ _ _ _ h=>h.unrn hsc hid) fun r os ts m ⟨h1,h2⟩=>hK r os ts m h1 h2
theorem sem_rvc (TT : Tab P) (h : ∀ K : AS → Prop,(∀ s',Q .normal s' → K s') → rvc TT E (all.toList.map (·.dst)) l s K) : Sem P E all l Q s:=fun hd a w hs =>
  rvc_sound (TT:=TT) (K:=Q .normal) (fun s' a' w' hk hs'=>⟨s',hk,hs'⟩) l s a w hd hs (h _ fun _ h=>h)
end
end Go.AL
namespace Go.AL
open Go
set_option linter.unusedSimpArgs false
set_option linter.unusedVariables false
theorem run_of_body {P : Program} (TT : Tab P) {g : FuncId} {fn : Func} {c : Code} {args : List AV} {objs : List AO} {R : Nat → AV → List AO → List Nat → Nat → Prop}
    (hf : P.funcs[g]? = some fn) (hb : fn.body = some c) (hn : args.length ≤ fn.ntmps) (hok : codeOK fn.ntmps c = true) (E0 : Ent) (vs : List Value) (hk : E0.k = objs.length) (hS : St E0 objs [] E0.nt0 E0.I0 E0.τ0 E0.ρ0 E0.w0) (hA : RepAs E0.I0 E0.τ0 E0.ρ0 objs.length args vs)
    (h : AWp P { E0 with n:=fn.ntmps } c (RetQ TT fn.results.toList objs.length E0.nt0 R) ⟨env0 0 args,objs,[],E0.nt0⟩) :
    Calls P g vs.toArray E0.w0 fun e w'=>∃ x,e = .returned x ∧ ∃ r objs' toks' nt' I' τ' ρ',R E0.nt0 r objs' toks' nt' ∧ St E0 objs' toks' nt' I' τ' ρ' w' ∧ RepA I' τ' ρ' objs'.length r x:=by
  let E : Ent:={ E0 with n:=fn.ntmps }
  have hS' : St E objs [] E.nt0 E.I0 E.τ0 E.ρ0 E.w0:=⟨hS.iok,hS.obj,hS.objI,hS.inj,hS.tok,hS.tokd,hS.os,hS.tape,hS.output,hS.size,hS.blk,hS.ifr,hS.rho,hS.fresh,hS.tau,hS.len,hS.ntle,hS.i0,hS.tn⟩
  have hvl : vs.length = args.length:=hA.1.symm
  refine calls_of_wp hf hb ?_
  refine Go.wp_mono (h hok _ E0.w0 ⟨⟨E.I0,E.τ0,E.ρ0,hS',fun t=>?_⟩,?_,rfl⟩) fun e a' w' ⟨s',hq,hs'⟩=>?_
  · rw [env0_get]
    simp only [Nat.not_lt_zero,if_false,Nat.sub_zero]
    cases ha : args[t]? with
    | none=>exact .unk _
    | some v =>
      have hlt:=(List.getElem?_eq_some_iff.1 ha).1
      have hx : vs[t]? = some (vs[t]'(by omega)):=List.getElem?_eq_getElem _
      have:=hA.2 t v _ ha hx
      simp only [Option.getD_some]
      have e : (vs.toArray ++ Array.replicate (fn.ntmps - vs.toArray.size) undef).getD t undef = vs[t]'(by omega):=by
        simp only [Array.getD_eq_getD_getElem?]
        rw [Array.getElem?_append_left (by simp;omega)]
        simp [hx]
      rw [e]
      exact this
  · simp only [Array.size_append,List.size_toArray,Array.size_replicate]
    show vs.length + (fn.ntmps - vs.length) = fn.ntmps
    omega
  · have fin : ∀ e,(e = Exit.normal ∨ e = Exit.ret) → RetQ TT fn.results.toList objs.length E.nt0 R e s' → bodyPost P fn (fun e w'=>∃ x,e = .returned x ∧ ∃ r objs' toks' nt' I' τ' ρ',R E0.nt0 r objs' toks' nt' ∧ St E0 objs' toks' nt' I' τ' ρ' w' ∧ RepA I' τ' ρ' objs'.length r x) e a' w':=by
      intro e he hq
      have hq' : ∃ vs m toks,dM TT s' fn.results.toList = some vs ∧ objs.length ≤ m ∧ (∀ t ∈ toks,t ∈ s'.toks) ∧ (resV vs).scop (s'.objs.take m).length = true ∧ R E.nt0 (resV vs) (s'.objs.take m) toks s'.nt:=by
        rcases he with rfl|rfl<;>exact hq
      obtain ⟨us,m,toks,q1,q2,q3,q4,q5⟩:=hq'
      obtain ⟨I,τ,ρ,h1,h2⟩:=hs'.ex
      obtain ⟨xs,r1,r2,r3⟩:=run_results TT h1 h2 fn.results.toList us q1
      have hres : (results fn a'.tmps).run P w' = .ok (if hh : xs.toArray.size = 1 then xs.toArray[0] else .tuple xs.toArray) w':=by
        unfold results
        rw [Sem.run_bind,Array.mapM_eq_mapM_toList,Sem.run_map]
        exact congrArg (fun (r : Result (List Value))=>((r.andThen fun a w'=>Result.ok a.toArray w').andThen fun a w'=>Sem.run P (pure (if h : a.size = 1 then a[0] else Value.tuple a)) w')) r1
      have hval : RepA I τ ρ s'.objs.length (resV us) (if hh : xs.toArray.size = 1 then xs.toArray[0] else .tuple xs.toArray):=by
        split
        · rename_i hh
          simp only [List.size_toArray] at hh
          obtain ⟨x,rfl⟩:=List.length_eq_one_iff.1 hh
          rw [hh] at r2
          obtain ⟨u,rfl⟩:=List.length_eq_one_iff.1 r2
          exact r3 0 u x rfl rfl
        · rename_i hh
          simp only [List.size_toArray] at hh
          have : resV us = .tup us:=by
            match us,r2 with
            | [],_=>rfl
            | [u],r2=>simp at r2;exact absurd r2.symm hh
            | _ :: _ :: _,_=>rfl
          rw [this]
          exact .tup us xs r2 r3
      have hk' : E.k ≤ m:=by show E0.k ≤ m;omega
      have hS2:=(h1.trim m hk').sub toks q3
      have hS3 : St E0 (s'.objs.take m) toks s'.nt I τ ρ w':=⟨hS2.iok,hS2.obj,hS2.objI,hS2.inj,hS2.tok,hS2.tokd,hS2.os,hS2.tape,hS2.output,hS2.size,hS2.blk,hS2.ifr,hS2.rho,hS2.fresh,hS2.tau,hS2.len,hS2.ntle,hS2.i0,hS2.tn⟩
      have : bodyPost P fn (fun e w'=>∃ x,e = .returned x ∧ ∃ r objs' toks' nt' I' τ' ρ',R E0.nt0 r objs' toks' nt' ∧ St E0 objs' toks' nt' I' τ' ρ' w' ∧ RepA I' τ' ρ' objs'.length r x) .ret a' w' :=
        ⟨hs'.df,_,hres,_,rfl,_,_,_,_,I,τ,ρ,q5,hS3,hval.scop q4⟩
      rcases he with rfl|rfl<;>exact this
    cases e with
    | normal=>exact fin .normal (.inl rfl) hq
    | ret=>exact fin .ret (.inr rfl) hq
    | _=>exact hq.elim
def oldD (I0 : IH) : DV → Prop
  | .pin c v=>RepD I0 (fun _=>none) c v
  | .sl _ _ _=>False
  | _=>True
def oldL (I0 : IH) : List DV → Prop
  | []=>True
  | c :: cs=>oldD I0 c ∧ oldL I0 cs
def oldLL (I0 : IH) : List (List DV) → Prop
  | []=>True
  | x :: xs=>oldL I0 x ∧ oldLL I0 xs
mutual
theorem DV.er_er : ∀ c : DV,c.er.er = c.er
  | .int _ _=>rfl
  | .bool _=>rfl
  | .str _=>rfl
  | .sl sz xs o=>by simp only [DV.er,erLL_erLL xs]
  | .pin c v=>by simp only [DV.er];exact DV.er_er c
theorem erLL_erLL : ∀ xs : List (List DV),erLL (erLL xs) = erLL xs
  | []=>rfl
  | x :: xs=>by simp only [erLL,erL_erL x,erLL_erLL xs]
theorem erL_erL : ∀ xs : List DV,erL (erL xs) = erL xs
  | []=>rfl
  | x :: xs=>by simp only [erL,DV.er_er x,erL_erL xs]
end
theorem pn_er (v : Value) (c : DV) : (c.pn v).er = c.er:=by
  cases c with
  | sl sz xs o=>simp only [DV.pn,DV.er,erLL_erLL]
  | pin c u=>simp only [DV.pn,DV.er,DV.er_er]
  | _=>rfl
theorem pn_old {I : IH} {τ : TH} {c : DV} {v : Value} (h : RepD I τ c v) : oldD I (c.pn v):=by
  have h1:=h.pn.pinsOf
  cases c with
  | sl sz xs o=>exact h1
  | pin c u=>exact h1
  | _=>trivial
theorem pnL_get {g : Nat → Value} : ∀ {cs : List DV} {i j : Nat} {c : DV},(pnL g i cs)[j]? = some c → ∃ c',cs[j]? = some c' ∧ c = c'.pn (g (i + j))
  | [],i,j,c,h=>by simp [pnL] at h
  | x :: cs,i,0,c,h=>by simp [pnL] at h;exact ⟨x,rfl,h.symm⟩
  | x :: cs,i,j + 1,c,h=>by
    simp only [pnL,List.getElem?_cons_succ] at h
    obtain ⟨c',h1,h2⟩:=pnL_get h
    exact ⟨c',by simpa using h1,by rw [h2,show i + 1 + j = i + (j + 1) by omega]⟩
theorem pnL_len {g : Nat → Value} : ∀ {cs : List DV} {i : Nat},(pnL g i cs).length = cs.length
  | [],_=>rfl
  | x :: cs,i=>by simp [pnL,pnL_len (cs:=cs)]
theorem pnL_er {g : Nat → Value} : ∀ {cs : List DV} {i : Nat},erL (pnL g i cs) = erL cs
  | [],_=>rfl
  | x :: cs,i=>by simp only [pnL,erL,pn_er,pnL_er (cs:=cs)]
def pinLL (vals : Nat → Value) (sz : Nat) : Nat → List (List DV) → List (List DV)
  | _,[]=>[]
  | i,x :: xs=>pnL (fun j=>vals (i * sz + j)) 0 x :: pinLL vals sz (i + 1) xs
theorem pinLL_get {vals : Nat → Value} {sz : Nat} : ∀ {xs : List (List DV)} {i0 i : Nat} {y : List DV},(pinLL vals sz i0 xs)[i]? = some y → ∃ x,xs[i]? = some x ∧ y = pnL (fun j=>vals ((i0 + i) * sz + j)) 0 x
  | [],i0,i,y,h=>by simp [pinLL] at h
  | x :: xs,i0,0,y,h=>by simp [pinLL] at h;exact ⟨x,rfl,h.symm⟩
  | x :: xs,i0,i + 1,y,h=>by
    simp only [pinLL,List.getElem?_cons_succ] at h
    obtain ⟨x',h1,h2⟩:=pinLL_get h
    exact ⟨x',by simpa using h1,by rw [h2,show i0 + 1 + i = i0 + (i + 1) by omega]⟩
theorem pinLL_len {vals : Nat → Value} {sz : Nat} : ∀ {xs : List (List DV)} {i : Nat},(pinLL vals sz i xs).length = xs.length
  | [],_=>rfl
  | x :: xs,i=>by simp [pinLL,pinLL_len (xs:=xs)]
theorem pinLL_er {vals : Nat → Value} {sz : Nat} : ∀ {xs : List (List DV)} {i : Nat},erLL (pinLL vals sz i xs) = erLL xs
  | [],_=>rfl
  | x :: xs,i=>by simp only [pinLL,erLL,pnL_er,pinLL_er (xs:=xs)]
theorem oldL_of {I0 : IH} : ∀ {cs : List DV},(∀ (j : Nat) c,cs[j]? = some c → oldD I0 c) → oldL I0 cs
  | [],_=>trivial
  | c :: cs,h=>⟨h 0 c rfl,oldL_of fun j x hx=>h (j + 1) x (by simpa using hx)⟩
theorem oldLL_of {I0 : IH} : ∀ {xs : List (List DV)},(∀ (i : Nat) x,xs[i]? = some x → oldL I0 x) → oldLL I0 xs
  | [],_=>trivial
  | x :: xs,h=>⟨h 0 x rfl,oldLL_of fun i y hy=>h (i + 1) y (by simpa using hy)⟩
theorem oldL_app {I0 : IH} : ∀ {a b : List DV},oldL I0 a → oldL I0 b → oldL I0 (a ++ b)
  | [],_,_,h=>h
  | x :: a,b,h,h'=>⟨h.1,oldL_app h.2 h'⟩
theorem oldLL_flat {I0 : IH} : ∀ {xs : List (List DV)},oldLL I0 xs → oldL I0 xs.flatten
  | [],_=>trivial
  | x :: xs,h=>oldL_app h.1 (oldLL_flat h.2)
theorem RepD.pinSl {I : IH} {τ : TH} {sz : Nat} {xs : List (List DV)} {v : Value} (h : RepD I τ (.sl sz xs .no) v) : ∃ ys,RepD I τ (.sl sz ys .no) v ∧ erLL ys = erLL xs ∧ ys.length = xs.length ∧ oldLL I ys:=by
  cases h with
  | sl _ _ _ a cap vals hsz hcap hmax hnil hadr hI hrep hown =>
  have hget : ∀ (i : Nat) y (j : Nat) c,(pinLL vals sz 0 xs)[i]? = some y → y[j]? = some c → ∃ x c',xs[i]? = some x ∧ x[j]? = some c' ∧ c = c'.pn (vals (i * sz + j)):=by
    intro i y j c hy hc
    obtain ⟨x,hx,rfl⟩:=pinLL_get hy
    obtain ⟨c',hc',rfl⟩:=pnL_get hc
    exact ⟨x,c',hx,hc',by rw [Nat.zero_add,Nat.zero_add]⟩
  have hl:=pinLL_len (vals:=vals) (sz:=sz) (xs:=xs) (i:=0)
  refine ⟨pinLL vals sz 0 xs,?_,pinLL_er,hl,oldLL_of fun i y hy=>oldL_of fun j c hc=>?_⟩
  · have:=RepD.sl (I:=I) (τ:=τ) sz (pinLL vals sz 0 xs) .no a cap vals (fun y hy=>by
      obtain ⟨i,hi⟩:=List.getElem?_of_mem hy
      obtain ⟨x,hx,rfl⟩:=pinLL_get hi
      rw [pnL_len]
      exact hsz x (List.mem_of_getElem? hx)) (by rw [hl];exact hcap) hmax hnil hadr (fun adr ha i y j c hy hc=>by
      obtain ⟨x,c',h1,h2,_⟩:=hget i y j c hy hc
      exact hI adr ha i x j c' h1 h2) (fun i y j c hy hc=>by
      obtain ⟨x,c',h1,h2,rfl⟩:=hget i y j c hy hc
      exact (hrep i x j c' h1 h2).pn.mono ⟨fun _ _ _ h=>h,fun _ _ h=>by cases h⟩) trivial
    rw [hl] at this
    exact this
  · obtain ⟨x,c',h1,h2,rfl⟩:=hget i y j c hy hc
    exact pn_old (hrep i x j c' h1 h2)
theorem ac_of_bodyP {P : Program} (TT : Tab P) {g : FuncId} {fn : Func} {c : Code} {sz : Nat} {xs : List (List DV)} {rest : List AV} {R : Nat → AV → List AO → List Nat → Nat → Prop}
    (hcall : CallOK P g) (hf : P.funcs[g]? = some fn) (hb : fn.body = some c) (hn : rest.length + 1 ≤ fn.ntmps) (hok : codeOK fn.ntmps c = true)
    (h : ∀ (E : Ent) (ys : List (List DV)),E.k = 0 → erLL ys = erLL xs → ys.length = xs.length → oldLL E.I0 ys → AWp P E c (RetQ TT fn.results.toList 0 E.nt0 R) ⟨env0 0 (.d (.sl sz ys .no) :: rest),[],[],E.nt0⟩) : AC P g (.d (.sl sz xs .no) :: rest) [] R:=by
  refine ⟨hcall,fun E0 vs hk hS hA=>?_⟩
  have hvl : vs.length = rest.length + 1:=by have:=hA.1;simpa using this.symm
  obtain ⟨v0,vs',rfl⟩ : ∃ v0 vs',vs = v0 :: vs':=by
    cases vs with
    | nil=>simp at hvl
    | cons v vs=>exact ⟨v,vs,rfl⟩
  have h0:=hA.2 0 _ v0 rfl rfl
  cases h0 with
  | d _ _ h0 =>
  obtain ⟨ys,h1,h2,h3,h4⟩:=h0.pinSl
  refine run_of_body TT hf hb (args:=.d (.sl sz ys .no) :: rest) (by simpa using hn) hok E0 (v0 :: vs') hk hS ⟨by simpa using hA.1,fun i v x hv hx=>?_⟩ (h _ ys hk h2 h3 h4)
  cases i with
  | zero =>
    simp only [List.getElem?_cons_zero,Option.some.injEq] at hv hx
    subst hv;subst hx
    exact .d _ _ h1
  | succ i=>exact hA.2 (i + 1) v x (by simpa using hv) (by simpa using hx)
def DelF (P : Program) (g : FuncId) (sz : Nat) : Prop :=
  CallOK P g ∧ ∀ (w : World) (b n cap i : Nat) (arr : Array Value) (T : TypeId),w.heap[b]? = some (.cells arr T (0,0)) → arr.size = cap * sz → i < n → n ≤ cap → cap ≤ 9223372036854775807 → (∀ (j : Nat) v,j < n * sz → arr[j]? = some v → v.oneCell' = true) →
    Calls P g [Value.slice (some ⟨b,0,none⟩) n cap,Value.int .i64 i,Value.int .i64 ((i : Int) + 1)].toArray w fun e w'=>e = .returned (.slice (some ⟨b,0,none⟩) (n - 1) cap) ∧ (∃ arr',w'.heap[b]? = some (.cells arr' T (0,0)) ∧ arr'.size = arr.size ∧ ∀ j,j < (n - 1) * sz → arr'[j]? = if j < i * sz then arr[j]? else arr[j + sz]?) ∧ FrameW [b] w w'
theorem oldD_rep {I0 I I1 : IH} {τ τ' : TH} {c : DV} {v : Value} (hI : ∀ b o x,I0 b o = some x → I b o = some x) (hk : oldD I0 c) (hr : RepD I1 τ c v) : RepD I τ' c v:=by
  cases c with
  | int k n=>cases hr;exact .int k n
  | bool b=>cases hr;exact .bool b
  | str s=>cases hr with|str _ hs=>exact .str s hs
  | pin c u=>cases hr with|pin _ _ _=>exact .pin _ _ (RepD.mono ⟨hI,fun _ _ h=>by cases h⟩ hk)
  | sl sz xs own=>exact hk.elim
theorem oldL_rep {I0 I I1 : IH} {τ τ' : TH} (hI : ∀ b o x,I0 b o = some x → I b o = some x) : ∀ {cs : List DV} {vs : List Value},oldL I0 cs → RepL I1 τ cs vs → RepL I τ' cs vs
  | [],vs,_,hr=>by
    have : vs = []:=by have:=hr.1;simpa using this.symm
    subst this
    exact RepL.nil _ _
  | c :: cs,vs,hk,hr=>by
    obtain ⟨v,us,rfl,hx,hxs⟩:=d7 hr
    exact RepL.cons (oldD_rep hI hk.1 hx) (oldL_rep hI hk.2 hxs)
theorem flat_erase {sz : Nat} : ∀ {xs : List (List DV)} {i : Nat},(∀ x ∈ xs,x.length = sz) → i < xs.length → (xs.eraseIdx i).flatten = xs.flatten.take (i * sz) ++ xs.flatten.drop ((i + 1) * sz)
  | [],i,_,h=>by simp at h
  | x :: xs,0,hs,_=>by
    have hx:=hs x (by simp)
    simp only [List.eraseIdx_cons_zero,Nat.zero_mul,List.take_zero,List.nil_append,Nat.zero_add,Nat.one_mul,List.flatten_cons]
    rw [← hx,List.drop_left]
  | x :: xs,i + 1,hs,h=>by
    have hx:=hs x (by simp)
    have ih:=flat_erase (xs:=xs) (i:=i) (fun y hy=>hs y (by simp [hy])) (by simpa using h)
    simp only [List.eraseIdx_cons_succ,List.flatten_cons,ih]
    have e1 : (i + 1) * sz = x.length + i * sz:=by rw [hx,Nat.succ_mul];omega
    have e2 : (i + 1 + 1) * sz = x.length + (i + 1) * sz:=by rw [hx,Nat.succ_mul (i + 1)];omega
    have t1 : (x ++ xs.flatten).take ((i + 1) * sz) = x ++ xs.flatten.take (i * sz):=by rw [e1,List.take_length_add_append]
    have t2 : (x ++ xs.flatten).drop ((i + 1 + 1) * sz) = xs.flatten.drop ((i + 1) * sz):=by rw [e2,List.drop_length_add_append]
    rw [t1,t2,List.append_assoc]
theorem sem_del {P : Program} {E : Ent} {all : Array Oper} {Q : Exit → AS → Prop} {s : AS} {rest : List Oper} {d : Nat} {ty : TypeId} {pos : String} {after : Array Edge} {g : FuncId} {x y z : Operand} {tys : Array TypeId} {sz t i : Nat} {xs : List (List DV)}
    (hD : DelF P g sz) (hx : ev s x = .d (.sl sz xs (.tok t))) (hy : ev s y = .d (.int .i64 i)) (hz : ev s z = .d (.int .i64 ((i : Int) + 1))) (hlt : i < xs.length) (ht : t ∈ s.toks) (ho : oldLL E.I0 xs) (hk : E.k = 0)
    (h : Sem P E all rest Q ⟨[(d,.d (.sl sz (xs.eraseIdx i) (.tok s.nt)))],[],[s.nt],s.nt + 1⟩) : Sem P E all (⟨some d,.call ⟨.value (.func g),#[x,y,z],tys⟩,ty,pos,after,none⟩ :: rest) Q s:=fun hd a w hs=>by
  simp only [List.all_cons,Bool.and_eq_true,Option.all_some,decide_eq_true_eq] at hd
  obtain ⟨⟨I,τ,ρ,h1,h2⟩,h3,h4⟩:=hs
  have vx:=bU h2 x
  have vy:=bU h2 y
  have vz:=bU h2 z
  rw [hx] at vx
  rw [hy] at vy
  rw [hz] at vz
  have ey:=dP vy
  have ez:=dP vz
  generalize hv : a.eval x = v at vx
  cases vx with
  | d _ _ hr =>
  have hr0:=hr
  cases hr with
  | sl _ _ _ adr cap vals hsz hcap hmax hnil hadr hI hrep hown =>
  rcases hown with h0|⟨b,hb,rfl⟩
  · omega
  obtain ⟨_,vs,hvl,hvI,hvr⟩:=fO hr0
  obtain ⟨_,gt⟩:=h1.tok t ht
  obtain ⟨gb,⟨cur,T,g2,g3⟩,g4,g5⟩:=gt _ _ _ hb
  have hcur : ∀ (j : Nat) u,vs[j]? = some u → cur[j]? = some u:=fun j u hu=>by
    have e:=h1.iok _ _ _ (hvI j u hu)
    simp only [World.cell?,g2,Nat.zero_add] at e
    simpa using e
  have hone : ∀ (j : Nat) u,j < xs.length * sz → cur[j]? = some u → u.oneCell' = true:=fun j u hj hu=>by
    have e:=hcur j _ (List.getElem?_eq_getElem (by omega : j < vs.length))
    rw [hu] at e
    cases e
    exact hvr.one _ (List.getElem_mem _)
  refine wpList_plain rfl fun K hK=>?_
  unfold Oper.wp
  have e : (execOp a.eval ⟨some d,.call ⟨.value (.func g),#[x,y,z],tys⟩,ty,pos,after,none⟩).run P w = .ok (.enter g [Value.slice (some ⟨b,0,none⟩) xs.length cap,Value.int .i64 i,Value.int .i64 ((i : Int) + 1)].toArray) w:=by
    have:=hD.1 [Value.slice (some ⟨b,0,none⟩) xs.length cap,Value.int .i64 i,Value.int .i64 ((i : Int) + 1)].toArray w
    have ef : a.eval (.func g) = Value.func (.func g) #[] #[]:=rfl
    simp only [execOp,resolve,ef,Deferred.ofValue,pure_bind,invoke,Array.empty_append]
    simpa [hv,ey,ez] using this
  rw [e]
  refine Calls.mono (hD.2 w b xs.length cap i cur T g2 g3 hlt hcap hmax hone) fun e w' ⟨q1,⟨arr',q2,q3,q4⟩,q5⟩=>?_
  subst q1
  have hbs : b < w.heap.size:=(Array.getElem?_eq_some_iff.1 g2).1
  let I' : IH:=fun b' o=>if b' = b then (if o < (xs.length - 1) * sz then arr'[o]? else none) else I b' o
  have hI0 : ∀ b' o u,E.I0 b' o = some u → I' b' o = some u:=fun b' o u hu=>by
    have hlt:=h1.i0 _ _ _ hu
    show (if b' = b then _ else I b' o) = _
    rw [if_neg (by omega),h1.ifr b' hlt]
    exact hu
  have hsame : ∀ b',b' < w.heap.size → b' ≠ b → w'.heap[b']? = w.heap[b']?:=fun b' hb' hne=>q5.same b' hb' (by simpa using hne)
  have hSt : St E [] [s.nt] (s.nt + 1) I' (updT τ s.nt (some (b,(xs.length - 1) * sz,cap * sz))) ρ w':=by
    refine ⟨fun b' o u hu=>?_,fun j o ho=>by simp at ho,fun j hj=>by simp at hj,fun j k hj=>by simp at hj,fun u hu=>?_,fun u hu u' hu'=>?_,q5.os.trans h1.os,q5.tape.trans h1.tape,q5.output.trans h1.output,Nat.le_trans h1.size q5.size,fun b' hb' hi=>?_,fun b' hb' o=>?_,fun j hj=>by omega,fun j hj hj'=>by simp at hj',fun u hu=>?_,by simp [hk],by have:=h1.ntle;omega,h1.i0,fun u hu=>?_⟩
    · by_cases hbb : b' = b
      · subst hbb
        simp only [I',if_true] at hu
        split at hu
        · simp only [World.cell?,q2];simpa using hu
        · cases hu
      · simp only [I',if_neg hbb] at hu
        have hlt:=h1.lt_of_I hu
        have:=h1.iok b' o u hu
        simpa [World.cell?,hsame b' hlt hbb] using this
    · simp only [List.mem_singleton] at hu
      subst hu
      refine ⟨by omega,fun b' e' r' hb'=>?_⟩
      rw [f7] at hb'
      simp only [Option.some.injEq,Prod.mk.injEq] at hb'
      obtain ⟨rfl,rfl,rfl⟩:=hb'
      exact ⟨gb,⟨arr',T,q2,by rw [q3];exact g3⟩,fun o ho=>by simp only [I',if_true];rw [if_neg (by omega)],fun j hj=>by simp at hj⟩
    · simp only [List.mem_singleton] at hu hu'
      subst hu;subst hu'
      intros;rfl
    · rw [hsame b' (Nat.lt_of_lt_of_le hb' h1.size) (by omega)]
      exact h1.blk b' hb' hi
    · show (if b' = b then _ else I b' o) = _
      rw [if_neg (by omega)]
      exact h1.ifr b' hb' o
    · have hne : u ≠ s.nt:=by have:=h1.ntle;omega
      simp only [updT,if_neg hne]
      exact h1.tau u hu
    · have hne : u ≠ s.nt:=by omega
      simp only [updT,if_neg hne]
      exact h1.tn u (by omega)
  refine hK _ _ (h hd.2 _ w' ⟨⟨I',_,ρ,hSt,fun u=>?_⟩,put_size h3,put_defers h4⟩)
  simp only [getE]
  split
  · rename_i eu
    subst eu
    rw [put_at h3 hd.1]
    have hel : (xs.eraseIdx i).length = xs.length - 1:=List.length_eraseIdx_of_lt hlt
    have hn1 : (i + 1) * sz ≤ xs.length * sz:=Nat.mul_le_mul_right _ hlt
    have hn2 : i * sz + sz = (i + 1) * sz:=by rw [Nat.succ_mul]
    have hn3 : (xs.length - 1) * sz + sz = xs.length * sz:=by rw [← Nat.succ_mul];congr 1;omega
    have hall : RepL I' (updT τ s.nt (some (b,(xs.length - 1) * sz,cap * sz))) xs.flatten vs:=oldL_rep hI0 (oldLL_flat ho) hvr
    have hpart:=(hall.take (i * sz)).append (hall.drop ((i + 1) * sz))
    rw [← flat_erase hsz hlt] at hpart
    have:=eW (own:=.tok s.nt) (adr:=⟨b,0,none⟩) (cap:=cap) (sz:=sz) (zs:=xs.eraseIdx i) (fun q hq=>hsz q (List.mem_of_mem_eraseIdx hq)) rfl (by rw [hel];omega) hmax (fun j u hj=>?_) hpart (.inr ⟨b,by rw [f7,hel],rfl⟩)
    · rw [hel] at this
      exact .d _ _ this
    · have hjl:=(List.getElem?_eq_some_iff.1 hj).1
      simp only [List.length_append,List.length_take,List.length_drop] at hjl
      have hj1 : j < (xs.length - 1) * sz:=by omega
      simp only [Nat.zero_add,I',if_true]
      rw [if_pos hj1,q4 j hj1]
      by_cases hji : j < i * sz
      · rw [if_pos hji]
        rw [List.getElem?_append_left (by simp;omega),List.getElem?_take,if_pos hji] at hj
        exact hcur j u hj
      · rw [if_neg hji]
        rw [List.getElem?_append_right (by simp;omega),List.getElem?_drop] at hj
        have e3 : (i + 1) * sz + (j - (List.take (i * sz) vs).length) = j + sz:=by simp;omega
        rw [e3] at hj
        exact hcur _ u hj
  · exact .unk _
end Go.AL
namespace Go.AL
open Go
set_option linter.unusedSimpArgs false
set_option linter.unusedVariables false
def redoI (I : IH) (b e : Nat) (arr : Array Value) : IH:=fun b' o=>if b' = b then (if o < e then arr[o]? else none) else I b' o
section
variable {P : Program} {n : Nat} {Q : Exit → Act → World → Prop} {env : List (Nat × Value)} {all : Array Oper} {rest : List Oper} {y : TypeId} {p : String} {f : Array Edge} {x x2 : Operand} {w0 : World}
end
theorem RepL.set {I : IH} {τ : TH} {cs : List DV} {vs : List Value} {k : Nat} {c : DV} {v : Value} (h : RepL I τ cs vs) (hc : RepD I τ c v) : RepL I τ (cs.set k c) (vs.set k v):=by
  refine ⟨by simpa using h.1,fun i c' v' hc' hv'=>?_⟩
  rw [List.getElem?_set] at hc' hv'
  by_cases e : k = i
  · subst e
    by_cases hl : k < cs.length
    · have hl2 : k < vs.length:=by rw [← h.1];exact hl
      simp [hl] at hc'
      simp [hl2] at hv'
      subst hc';subst hv';exact hc
    · simp [hl] at hc'
  · simp only [if_neg e] at hc' hv'
    exact h.2 i c' v' hc' hv'
end Go.AL
namespace Go.AL
open Go
set_option linter.unusedSimpArgs false
set_option linter.unusedVariables false
def scA : AV → Bool
  | .d c=>isSc c
  | _=>false
section
variable {P : Program} {E : Ent} {all : Array Oper} {Q : Exit → AS → Prop} {s : AS} {rest : List Oper}
end
end Go.AL
namespace Go.AL
open Go
set_option linter.unusedSimpArgs false
set_option linter.unusedVariables false
section
variable {P : Program} {E : Ent} {all : Array Oper} {Q : Exit → AS → Prop} {s : AS} {rest : List Oper} {dst : Option Nat} {ty : TypeId} {pos : String} {after : Array Edge}
theorem sem_cut (TT : Tab P) {l : List Oper} (k : Nat) (h : ∀ K : AS → Prop,(∀ s',Sem P E all (l.drop k) Q s' → K s') → rvc TT E (all.toList.map (·.dst)) (l.take k) s K) : Sem P E all l Q s:=fun hd a w hs=>by
  have h1 : ((l.take k).all fun o=>o.dst.all fun d=>decide (d < E.n)) = true:=List.all_eq_true.2 fun o ho=>List.all_eq_true.1 hd o (List.mem_of_mem_take ho)
  have h2 : ((l.drop k).all fun o=>o.dst.all fun d=>decide (d < E.n)) = true:=List.all_eq_true.2 fun o ho=>List.all_eq_true.1 hd o (List.mem_of_mem_drop ho)
  have key:=rvc_soundS (TT:=TT) (all:=all) (K:=Sem P E all (l.drop k) Q) (Q:=fun e a' w'=>∃ s',Q e s' ∧ Sim E s' a' w') (suf:=l.drop k) (fun s' a' w' hk hs'=>hk h2 a' w' hs') (l.take k) s a w h1 hs (h _ fun _ h=>h)
  rw [List.take_append_drop] at key
  exact key
theorem op_eqnil (TT : Tab P) {T e U : TypeId} {x : Operand} {sz : Nat} {xs : List (List DV)} {own : Own} {K : AV → AS → Prop} (hx : ev s x = .d (.sl sz xs own)) (ht : (TT.T T).t = .slice e)
    (hK : ∀ b,(b = true → xs = []) → K (.d (.bool b)) s) : OpOK P E s (.binOp .eql T x (.const (.slice none 0 0)) U) ty K:=fun a w hs=>by
  obtain ⟨I,τ,ρ,h1,h2⟩:=hs.ex
  have hv:=bU h2 x
  rw [hx] at hv
  have hv':=rep_sl hv
  have hd:=(TT.ok T).desc
  simp only [ht] at hd
  have hc : a.eval (.const (.slice none 0 0)) = .slice none 0 0:=rfl
  generalize hax : a.eval x = vx at *
  cases hv' with
  | sl _ _ _ adr cap vals hsz hcap hmax hnil hadr hI hrep hown =>
  have hq:=Lib.run_eql_slice_nil w T e adr xs.length cap 0 0 hd
  refine .inl ⟨.bool adr.isNone,w,fun _ _ _ _=>?_,.d (.bool adr.isNone),s,hK _ fun hb=>?_,rfl,I,τ,ρ,h1,h2,.d _ _ (.bool _)⟩
  · simp [execOp,hax,hc,eqGuard_at_slice,hq]
  · have : cap = 0:=hnil (by simpa using hb)
    exact List.eq_nil_of_length_eq_zero (by omega)
theorem sem_eqnil (TT : Tab P) {T e U : TypeId} {x : Operand} {sz : Nat} {xs : List (List DV)} {own : Own} (hx : ev s x = .d (.sl sz xs own)) (ht : (TT.T T).t = .slice e)
    (h : ∀ b,(b = true → xs = []) → Sem P E all rest Q (s.put dst (.d (.bool b)))) : Sem P E all (⟨dst,.binOp .eql T x (.const (.slice none 0 0)) U,ty,pos,after,none⟩ :: rest) Q s :=
  sem_op (K:=fun v s'=>Sem P E all rest Q (s'.put dst v)) (op_eqnil TT hx ht h) fun _ _ h=>h
end
end Go.AL
