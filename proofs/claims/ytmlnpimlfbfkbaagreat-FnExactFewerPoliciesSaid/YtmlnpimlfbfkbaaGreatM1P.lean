import Derived.Test.YtmlnpimlfbfkbaaGreatM1
namespace Go.Proofs.YtmlnpimlfbfkbaaGreat
open Go Go.AL
set_option linter.unusedSimpArgs false
set_option linter.unusedVariables false
set_option maxHeartbeats 4000000 in
set_option maxRecDepth 100000 in
theorem markP_ok (l : List Policy) (k : Int) (h0 : 0 ≤ k) (h1 : k + cnL cP l ≤ 1000000000000000) : MarkF Tryz.prog 30 (LPm l) (LPm (mkL fP cP l k)) k (k + cnL cP l):=by
  refine gM (rt:=4) Tryz.call30 Tryz.func30 rfl rfl Tryz.ntmps30 (by decide) fun w0 v bs hT=>?_
  simp only [TreeA,TreeV] at hT
  obtain ⟨a,cap,rfl,hcap,hx⟩:=hT
  rw [List.length_map] at *
  rcases hx with ⟨hnil,rfl⟩|⟨b,vs,bs',rfl,rfl,hbn,hcell,hsz,hll⟩
  · obtain rfl : l = []:=by simpa using hnil
    (repeat' (first|with_reducible (first|(refine cN ?_;intro K hK)|(refine cA ?_;intro K hK)|(refine dT ?_)|(refine cU ?_)|(refine d9 ?_)|(refine dX ?_)|(refine dB ?_)|(refine dS ?_)|(refine dU ?_)|(refine c7 ?_)|(refine bW ?_)|(refine bM ?_)|(refine bX ?_)|(refine bS ?_)|(refine bV rfl ?_)|(refine cG rfl ?_)|(refine cJ rfl ?_)|(refine hK _ _ ?_;clear K hK))|((first|(refine dA rfl (by decide) ?_)|(refine cH rfl (by decide) ?_)|(refine dV rfl rfl rfl (by decide) ?_)|(refine dW TT rfl rfl rfl (by decide) ?_)|(refine cR TT rfl rfl rfl rfl rfl (by omega) (by omega) (by decide) ?_)|(refine cO TT rfl rfl rfl rfl (by decide) (by decide) ?_))<;>(try simp only [DV.zv,Int.toNat_natCast,List.set_cons_zero,List.set_cons_succ]))))
    refine j2 (env':=[(0,.slice a 0 cap),(1,.int .i64 k),(5,.int .i64 (0 : Nat))]) (by simp [getP]) (fun w h=>h) ?_
    refine hH 0 5 (fun i=>[(0,.slice a 0 cap),(1,.int .i64 k),(5,.int .i64 i)]) (fun _ w=>w = w0) (fun i=>rfl) ⟨rfl,rfl⟩ fun i hi=>?_
    obtain rfl : i = 0:=by omega
    (repeat' (first|with_reducible (first|(refine cN ?_;intro K hK)|(refine cA ?_;intro K hK)|(refine dT ?_)|(refine cU ?_)|(refine d9 ?_)|(refine dX ?_)|(refine dB ?_)|(refine dS ?_)|(refine dU ?_)|(refine c7 ?_)|(refine bW ?_)|(refine bM ?_)|(refine bX ?_)|(refine bS ?_)|(refine bV rfl ?_)|(refine cG rfl ?_)|(refine cJ rfl ?_)|(refine hK _ _ ?_;clear K hK))|((first|(refine dA rfl (by decide) ?_)|(refine cH rfl (by decide) ?_)|(refine dV rfl rfl rfl (by decide) ?_)|(refine dW TT rfl rfl rfl (by decide) ?_)|(refine cR TT rfl rfl rfl rfl rfl (by omega) (by omega) (by decide) ?_)|(refine cO TT rfl rfl rfl rfl (by decide) (by decide) ?_))<;>(try simp only [DV.zv,Int.toNat_natCast,List.set_cons_zero,List.set_cons_succ,dO]))))
    rintro a w ⟨h2,h3,h4,rfl⟩
    exact ⟨.inr rfl,by rw [h4 4 _ rfl];simp [cnL],h3,⟨_,cap,rfl,hcap,.inl ⟨rfl,rfl⟩⟩,FrameW.refl _ _⟩
  · have hM0 : MT w0 (b :: bs') b bs' (mixD bL fP cP l k 0) w0:=⟨vs,hcell,by rw [mixD_0];exact dN.1 hll,hbn,FrameW.refl _ _⟩
    (repeat' (first|with_reducible (first|(refine cN ?_;intro K hK)|(refine cA ?_;intro K hK)|(refine dT ?_)|(refine cU ?_)|(refine d9 ?_)|(refine dX ?_)|(refine dB ?_)|(refine dS ?_)|(refine dU ?_)|(refine c7 ?_)|(refine bW ?_)|(refine bM ?_)|(refine bX ?_)|(refine bS ?_)|(refine bV rfl ?_)|(refine cG rfl ?_)|(refine cJ rfl ?_)|(refine hK _ _ ?_;clear K hK))|((first|(refine dA rfl (by decide) ?_)|(refine cH rfl (by decide) ?_)|(refine dV rfl rfl rfl (by decide) ?_)|(refine dW TT rfl rfl rfl (by decide) ?_)|(refine cR TT rfl rfl rfl rfl rfl (by omega) (by omega) (by decide) ?_)|(refine cO TT rfl rfl rfl rfl (by decide) (by decide) ?_))<;>(try simp only [DV.zv,Int.toNat_natCast,List.set_cons_zero,List.set_cons_succ]))))
    refine j2 (env':=[(0,.slice (some ⟨b,0,none⟩) l.length cap),(1,.int .i64 (k + cnL cP (l.take 0))),(5,.int .i64 (0 : Nat))]) (by simp [getP,cnL]) (M':=MT w0 (b :: bs') b bs' (mixD bL fP cP l k 0)) (fun w h=>h ▸ hM0) ?_
    refine hH l.length 5 (fun i=>[(0,.slice (some ⟨b,0,none⟩) l.length cap),(1,.int .i64 (k + cnL cP (l.take i))),(5,.int .i64 i)]) (fun i=>MT w0 (b :: bs') b bs' (mixD bL fP cP l k i)) (fun i=>rfl) ⟨rfl,rfl⟩ fun i hi=>?_
    by_cases hlt : i < l.length
    · obtain ⟨x,rest,hdr⟩ : ∃ x rest,l.drop i = x :: rest:=⟨l[i],l.drop (i + 1),List.drop_eq_getElem_cons hlt⟩
      obtain ⟨pre,post,hp1,hp2,hp3,hp4⟩:=mixD_at bL fP cP (sz:=9) (fun _=>rfl) k hdr hi
      have hc0:=dM cP cP_nn (l.take i)
      have hc1:=j9 cP hdr
      have hc2:=dM cP cP_nn rest
      generalize hkk : k + cnL cP (l.take i) = kk
      have hn2:=dM cE cE_nn x.when.parts
      have hcu:=cP_eq x
      have hkv : k + cnL cP (l.take (i + 1)) = kk + 1 + 1 + 1 + 1 + 1 + 1 + 1 + 1 + cnL cE x.when.parts:=by rw [hp4];rw [cP_eq];omega
      rw [cP_eq] at hc1
      have hw1 : IntKind.i64.wrap (kk + 1) = kk + 1:=bT (by omega)
      have hw2 : IntKind.i64.wrap (kk + 1 + 1) = kk + 1 + 1:=bT (by omega)
      have hw3 : IntKind.i64.wrap (kk + 1 + 1 + 1) = kk + 1 + 1 + 1:=bT (by omega)
      have hw4 : IntKind.i64.wrap (kk + 1 + 1 + 1 + 1) = kk + 1 + 1 + 1 + 1:=bT (by omega)
      have hw5 : IntKind.i64.wrap (kk + 1 + 1 + 1 + 1 + 1) = kk + 1 + 1 + 1 + 1 + 1:=bT (by omega)
      have hw6 : IntKind.i64.wrap (kk + 1 + 1 + 1 + 1 + 1 + 1) = kk + 1 + 1 + 1 + 1 + 1 + 1:=bT (by omega)
      have hw7 : IntKind.i64.wrap (kk + 1 + 1 + 1 + 1 + 1 + 1 + 1) = kk + 1 + 1 + 1 + 1 + 1 + 1 + 1:=bT (by omega)
      have hw8 : IntKind.i64.wrap (kk + 1 + 1 + 1 + 1 + 1 + 1 + 1 + 1) = kk + 1 + 1 + 1 + 1 + 1 + 1 + 1 + 1:=bT (by omega)
      have hwi : IntKind.i64.wrap ((i : Int) + 1) = ((i + 1 : Nat) : Int):=by rw [bT (by omega)];omega
      have hdi : decide ((i : Int) < (l.length : Int)) = true:=by simp;omega
      have hes : (TT.T 94).size = 9:=rfl
      refine pw_weak (M':=MT w0 (b :: bs') b bs' (pre ++ ([.str x.name,.bool x.allow,.int .i64 x.who,.int .i64 x.what,.int .i64 x.acts,.int .i64 x.when.kind,.int .i64 x.when.number,.str x.when.name,.sl 4 (x.when.parts.map encE) .no] ++ post))) (fun w h=>by rw [hp2] at h;exact h) ?_
      (repeat' (first|with_reducible (first|(refine cN ?_;intro K hK)|(refine cA ?_;intro K hK)|(refine dT ?_)|(refine cU ?_)|(refine d9 ?_)|(refine dX ?_)|(refine dB ?_)|(refine dS ?_)|(refine dU ?_)|(refine c7 ?_)|(refine bW ?_)|(refine bM ?_)|(refine bX ?_)|(refine bS ?_)|(refine bV rfl ?_)|(refine cG rfl ?_)|(refine cJ rfl ?_)|(refine hK _ _ ?_;clear K hK))|((first|(refine dA rfl (by decide) ?_)|(refine cH rfl (by decide) ?_)|(refine dV rfl rfl rfl (by decide) ?_)|(refine dW TT rfl rfl rfl (by decide) ?_)|(refine cR TT rfl rfl rfl rfl rfl (by omega) (by omega) (by decide) ?_)|(refine cO TT rfl rfl rfl rfl (by decide) (by decide) ?_)|(refine e5 (j:=0) (c:=.str (mtx _)) TT rfl rfl rfl rfl (by omega) rfl rfl ⟨rfl,mtx_len (by omega)⟩ (by simp) ?_)|(refine e5 (j:=1) (c:=.bool _) TT rfl rfl rfl rfl (by omega) rfl rfl rfl (by simp) ?_)|(refine e5 (j:=2) (c:=.int .i64 _) TT rfl rfl rfl rfl (by omega) rfl rfl rfl (by simp) ?_)|(refine e5 (j:=3) (c:=.int .i64 _) TT rfl rfl rfl rfl (by omega) rfl rfl rfl (by simp) ?_)|(refine e5 (j:=4) (c:=.int .i64 _) TT rfl rfl rfl rfl (by omega) rfl rfl rfl (by simp) ?_)|(refine e5 (j:=5) (c:=.int .i64 _) TT rfl rfl rfl rfl (by omega) rfl rfl rfl (by simp) ?_)|(refine e5 (j:=6) (c:=.int .i64 _) TT rfl rfl rfl rfl (by omega) rfl rfl rfl (by simp) ?_)|(refine e5 (j:=7) (c:=.str (mtx _)) TT rfl rfl rfl rfl (by omega) rfl rfl ⟨rfl,mtx_len (by omega)⟩ (by simp) ?_)|(refine pr_pure (args:=[_]) (dP _ (by omega)) rfl (mrep1 _) (mrepS _) (fun w w' hF h=>MT.ext hF h) (by decide) ?_)|(refine pr_inner (j:=8) TT (markE_ok x.when.parts (kk + 1 + 1 + 1 + 1 + 1 + 1 + 1 + 1) (by omega) (by omega)) rfl rfl rfl rfl rfl (by omega) rfl (fun z hz=>by simp [hz]) (by decide) rfl ?_ rfl rfl))<;>(try simp only [DV.zv,Int.toNat_natCast,List.set_cons_zero,List.set_cons_succ,hw1,hw2,hw3,hw4,hw5,hw6,hw7,hw8,hwi,hdi,hes]))))
      refine pq_then fun a w hs=>⟨hlt,hs.sub (by simp [getP,hkv]) (fun w h=>?_)⟩
      show MT _ _ _ _ (mixD bL fP cP l k (i + 1)) w
      rw [hp3,hkk]
      exact h
    · obtain rfl : i = l.length:=by omega
      (repeat' (first|with_reducible (first|(refine cN ?_;intro K hK)|(refine cA ?_;intro K hK)|(refine dT ?_)|(refine cU ?_)|(refine d9 ?_)|(refine dX ?_)|(refine dB ?_)|(refine dS ?_)|(refine dU ?_)|(refine c7 ?_)|(refine bW ?_)|(refine bM ?_)|(refine bX ?_)|(refine bS ?_)|(refine bV rfl ?_)|(refine cG rfl ?_)|(refine cJ rfl ?_)|(refine hK _ _ ?_;clear K hK))|((first|(refine dA rfl (by decide) ?_)|(refine cH rfl (by decide) ?_)|(refine dV rfl rfl rfl (by decide) ?_)|(refine dW TT rfl rfl rfl (by decide) ?_)|(refine cR TT rfl rfl rfl rfl rfl (by omega) (by omega) (by decide) ?_)|(refine cO TT rfl rfl rfl rfl (by decide) (by decide) ?_))<;>(try simp only [DV.zv,Int.toNat_natCast,List.set_cons_zero,List.set_cons_succ,dO]))))
      rintro a w ⟨h2,h3,h4,vs',g1,g2,g3,g4⟩
      rw [List.take_length] at h4
      rw [mixD_n] at g2
      refine ⟨.inr rfl,h4 4 _ rfl,h3,⟨_,cap,by simp [fV],by simpa [fV] using hcap,.inr ⟨b,vs',bs',rfl,rfl,g3,g1,?_,dN.2 g2⟩⟩,g4⟩
      intro x hx
      obtain ⟨y,_,rfl⟩:=List.mem_map.1 hx
      exact (fun _=>rfl) y
end Go.Proofs.YtmlnpimlfbfkbaaGreat
