/- The abstract logic, C: regions that draw their order, drawers, loops. -/
import Derived.Test.YtfgalmgldidcmaaGreatCoreB
import Derived.ProofKit
set_option linter.unusedVariables false
set_option linter.unusedSimpArgs false
set_option linter.unusedSectionVars false
namespace Go.AL
open Go
set_option linter.unusedSectionVars false
variable [Inhabited Glob]
set_option linter.unusedSimpArgs false
set_option linter.unusedVariables false

/-! ### One order serves every order -/

def okV (T A : List Nat) : AV → Bool
  | .ptr o _ => !T.contains o && !A.contains o
  | .map o => !T.contains o && !A.contains o
  | _ => true

/-- Where the list of variables bears this mark, it tells which slot points to which variable, for the stores. -/
def stMark : Nat := 999999
def stC (t o : Nat) : Nat := 1000000 + t * 1000 + o
def stB (T A : List Nat) (x : Operand) (v : AV) : Bool :=
  !A.contains stMark || match x with
    | .tmp t => match v with
      | .ptr o _ => decide (o < 1000) && A.contains (stC t o) && A.contains o && !T.contains o
      | _ => false
    | _ => false
def cleanB (T A : List Nat) (s : AS) : Op → Bool
  | .load _ x => okV T A (ev s x)
  | .lookup _ x _ _ => okV T A (ev s x)
  | .alloc _ => A.contains s.objs.length && !T.contains s.objs.length
  | .store _ x _ => stB T A x (ev s x)
  | _ => true

def Eqv (s s' : AS) : Prop := s.objs = s'.objs ∧ s.toks = s'.toks ∧ s.nt = s'.nt ∧ ∀ t, getE s.env t = getE s'.env t

def Inv (K : AS → Prop) : Prop := ∀ s s', Eqv s s' → K s → K s'

def AS.app (s : AS) : Option (List DV) → AS
  | none => s
  | some z => { s with objs := s.objs ++ [.cells z] }

theorem Eqv.refl (s : AS) : Eqv s s := ⟨rfl, rfl, rfl, fun _ => rfl⟩
theorem Eqv.symm {s s' : AS} (h : Eqv s s') : Eqv s' s := ⟨h.1.symm, h.2.1.symm, h.2.2.1.symm, fun t => (h.2.2.2 t).symm⟩
theorem Eqv.trans {s s' s'' : AS} (h : Eqv s s') (h' : Eqv s' s'') : Eqv s s'' := ⟨h.1.trans h'.1, h.2.1.trans h'.2.1, h.2.2.1.trans h'.2.2.1, fun t => (h.2.2.2 t).trans (h'.2.2.2 t)⟩

theorem getE_put (s : AS) (d : Option Nat) (v : AV) (t : Nat) : getE (s.put d v).env t = if d = some t then v else getE s.env t := by
  cases d with
  | none => simp [AS.put]
  | some d =>
    simp only [AS.put, getE, Option.some.injEq]
    by_cases h : t = d
    · subst h; simp
    · rw [if_neg h, if_neg (fun e => h e.symm)]

theorem put_objs (s : AS) (d : Option Nat) (v : AV) : (s.put d v).objs = s.objs := by cases d <;> rfl
theorem put_toks (s : AS) (d : Option Nat) (v : AV) : (s.put d v).toks = s.toks := by cases d <;> rfl
theorem put_nt (s : AS) (d : Option Nat) (v : AV) : (s.put d v).nt = s.nt := by cases d <;> rfl
theorem put_as (s : AS) (d : Option Nat) (v : AV) : s.put d v = { s with env := (s.put d v).env } := by cases d <;> rfl
theorem app_env (s : AS) (e : Option (List DV)) : (s.app e).env = s.env := by cases e <;> rfl
theorem app_toks (s : AS) (e : Option (List DV)) : (s.app e).toks = s.toks := by cases e <;> rfl
theorem app_nt (s : AS) (e : Option (List DV)) : (s.app e).nt = s.nt := by cases e <;> rfl
theorem app_put (s : AS) (e : Option (List DV)) (d : Option Nat) (v : AV) : (s.put d v).app e = (s.app e).put d v := by cases e <;> cases d <;> rfl

theorem Eqv.put {s s' : AS} (h : Eqv s s') (d : Option Nat) (v : AV) : Eqv (s.put d v) (s'.put d v) :=
  ⟨by rw [put_objs, put_objs]; exact h.1, by rw [put_toks, put_toks]; exact h.2.1, by rw [put_nt, put_nt]; exact h.2.2.1, fun t => by rw [getE_put, getE_put, h.2.2.2 t]⟩

theorem Eqv.comm (s : AS) {d d' : Option Nat} (hne : ∀ t, d = some t → d' ≠ some t) (v v' : AV) : Eqv ((s.put d v).put d' v') ((s.put d' v').put d v) :=
  ⟨by simp only [put_objs], by simp only [put_toks], by simp only [put_nt], fun t => by
    simp only [getE_put]
    by_cases h : d = some t
    · simp only [if_pos h, if_neg (hne t h)]
    · simp only [if_neg h]⟩

section
variable {P : Program} (TT : Tab P) (all : Array Oper) (T A : List Nat)

def guardV (s : AS) (o : Oper) : Option Bool :=
  match o.guard with
  | none => some true
  | some (j, want) => match (all[j]?).bind (·.dst) with
    | some t => match getE s.env t with
      | .d (.bool b) => some (b == want)
      | .tup [] => some false
      | _ => none
    | none => none

def aStp (r : SR) (dst : Option Nat) (s : AS) (K : AS → Prop) : Prop :=
  match r with
  | .ok pre _ v s' => pre ∧ K (s'.put dst v)
  | .call g args => CallD P T s.objs s.toks s.nt g args fun v o t m => K (({ s with objs := o, toks := t, nt := m } : AS).put dst v)
  | .stop => False

def aOp (o : Oper) (K : AS → Prop) (s : AS) : Prop :=
  (guardV all s o = some false ∧ K (s.put o.dst (.tup []))) ∨ (guardV all s o = some true ∧ cleanB T A s o.op = true ∧ aStp (P := P) T (stp TT s o.op) o.dst s K)

def DetAt (s : AS) (o : Oper) (v : AV) (e : Option (List DV)) : Prop :=
  (guardV all s o = some false ∧ v = .tup [] ∧ e = none) ∨
  (guardV all s o = some true ∧ cleanB T A s o.op = true ∧ opCls o.op ≤ 2 ∧ (opCls o.op ≤ 1 → e = none) ∧ ∃ pre fact, stp TT s o.op = .ok pre fact v (s.app e) ∧ pre)

variable {TT all T A} {o oi oj : Oper} {s s' : AS} {K K' : AS → Prop} {v : AV} {e : Option (List DV)}

theorem aStp_mono {r : SR} {dst : Option Nat} (hk : ∀ s, K s → K' s) (h : aStp (P := P) T r dst s K) : aStp (P := P) T r dst s K' := by
  cases r with
  | ok p f v s' => exact ⟨h.1, hk _ h.2⟩
  | call g args => simp only [aStp] at h ⊢; exact CallD.mono h fun v o t m _ _ hx => hk _ hx
  | stop => exact h

theorem aOp_mono (hk : ∀ s, K s → K' s) (h : aOp TT all T A o K s) : aOp TT all T A o K' s := by
  rcases h with ⟨h1, h2⟩ | ⟨h1, h2, h3⟩
  · exact .inl ⟨h1, hk _ h2⟩
  · exact .inr ⟨h1, h2, aStp_mono hk h3⟩

theorem aOp_inh (h : aOp TT all T A o K s) : ∃ s', K s' := by
  rcases h with ⟨h1, h2⟩ | ⟨h1, h2, h3⟩
  · exact ⟨_, h2⟩
  · cases hr : stp TT s o.op with
    | ok p f v s' => rw [hr] at h3; exact ⟨_, h3.2⟩
    | call g args => rw [hr] at h3; simp only [aStp] at h3; obtain ⟨v, o, t, m, _, _, hx⟩ := CallD.inh h3; exact ⟨_, hx⟩
    | stop => rw [hr] at h3; exact h3.elim

theorem guardV_congr (h : ∀ t ∈ o.looksAt all, getE s'.env t = getE s.env t) : guardV all s' o = guardV all s o := by
  unfold guardV
  cases hg : o.guard with
  | none => rfl
  | some jw =>
    obtain ⟨j, want⟩ := jw
    dsimp only
    cases hd : (all[j]?).bind (·.dst) with
    | none => rfl
    | some t =>
      dsimp only
      rw [h t (by simp [Oper.looksAt, hg, hd])]

theorem agr_of (h : ∀ t ∈ o.looksAt all, getE s'.env t = getE s.env t) : agr s s' o.op := by
  intro x hx
  cases x with
  | tmp t => exact h t (by simp only [Oper.looksAt, List.mem_append, List.mem_filterMap]; exact .inl ⟨_, hx, rfl⟩)
  | _ => rfl

theorem cleanB_congr (ha : agr s s' o.op) (hl : opCls o.op = 2 → s'.objs.length = s.objs.length) : cleanB T A s' o.op = cleanB T A s o.op := by
  unfold agr at ha
  cases ho : o.op with
  | load t x => rw [ho] at ha; simp only [cleanB, ha x (by simp [Op.operands])]
  | lookup t x y c => rw [ho] at ha; simp only [cleanB, ha x (by simp [Op.operands])]
  | alloc t => rw [ho] at hl; simp only [cleanB, hl rfl]
  | store t x y => rw [ho] at ha; simp only [cleanB, ha x (by simp [Op.operands])]
  | _ => rfl

theorem clean_rd {op : Op} (h : cleanB T A s op = true) {o : Nat} (ho : rdO s op = some o) : o ∉ T ∧ o ∉ A := by
  have key : ∀ v, okV T A v = true → rdV v = some o → o ∉ T ∧ o ∉ A := by
    intro v hv hr
    cases v <;> simp only [rdV, Option.some.injEq, reduceCtorEq] at hr <;> subst hr <;> simpa [okV] using hv
  cases op <;> simp only [rdO, reduceCtorEq] at ho
  · exact key _ h ho
  · exact key _ h ho

theorem stp_self_env (op : Op) {p f : Prop} {s2 : AS} (h : stp TT s op = .ok p f v s2) : s2.env = s.env := by
  have := stp_env TT op s s.env (fun _ _ => rfl)
  rw [show ({ s with env := s.env } : AS) = s from rfl, h] at this
  simp only [SR.setE, SR.ok.injEq, true_and] at this
  rw [this]

theorem stp_self_q {op : Op} (hc : opCls op ≤ 1) {p f : Prop} {s2 : AS} (h : stp TT s op = .ok p f v s2) : s2 = s := by
  have := stp_q TT hc s s (fun _ _ => rfl) (fun _ _ => rfl)
  rw [h] at this
  simpa [SR.setS] using this

def SR.nc : SR → Prop
  | .call _ _ => False
  | _ => True

theorem stp_nc (op : Op) (h : opCls op ≠ 3) : (stp TT s op).nc := by
  cases op with
  | call c =>
    obtain ⟨f, as, tys⟩ := c
    cases f with
    | value f => simp [opCls] at h
    | invoke r m => trivial
    | builtin b =>
      simp only [stp, callS]
      cases b <;> first | trivial | skip
      all_goals (first | (unfold mmR; (repeat' split) <;> trivial; done) | skip)
      all_goals (split <;> first | trivial | (unfold lenR; (repeat' split) <;> trivial; done) | (split <;> first | trivial | (unfold appR; (repeat' split) <;> trivial)))
  | binOp op T x y U => simp only [stp]; split <;> first | (unfold errR; (repeat' split) <;> trivial; done) | (unfold binR; (repeat' split) <;> trivial; done)
  | slice T x lo hi mx => cases mx <;> first | trivial | (simp only [stp]; unfold sliceR; (repeat' split) <;> trivial; done)
  | makeMap T r => cases r <;> trivial
  | _ =>
    first
      | trivial
      | (simp only [stp]; first | unfold pickR | unfold allocR | unfold boxR | unfold buildR | unfold bsliceR | unfold loadR | unfold storeR | unfold nilR | unfold unR | unfold convR | unfold funcR | unfold makeR | unfold faddrR | unfold fieldR | unfold iaddrR | unfold indexR | unfold lookR | unfold mupdR | unfold extrR
         (repeat' split) <;> trivial; done)

theorem stp_call_cls {op : Op} {g : FuncId} {args : List AV} (h : stp TT s op = .call g args) : opCls op = 3 := by
  by_cases hc : opCls op = 3
  · exact hc
  · have := stp_nc (TT := TT) (s := s) op hc
    rw [h] at this
    exact this.elim

end
end Go.AL

namespace Go.AL
open Go
set_option linter.unusedSectionVars false
variable [Inhabited Glob]
set_option linter.unusedSimpArgs false
set_option linter.unusedVariables false

section
variable {P : Program} {TT : Tab P} {all : Array Oper} {T A : List Nat} {o oi oj : Oper} {s s' : AS} {K K' : AS → Prop} {v : AV} {e : Option (List DV)}

theorem det_of_aOp (hc : opCls o.op ≤ 2) (h : aOp TT all T A o K s) : ∃ v e, DetAt TT all T A s o v e ∧ K ((s.app e).put o.dst v) := by
  rcases h with ⟨h1, h2⟩ | ⟨h1, h2, h3⟩
  · exact ⟨.tup [], none, .inl ⟨h1, rfl, rfl⟩, h2⟩
  · cases hr : stp TT s o.op with
    | call g args => have := stp_call_cls hr; omega
    | stop => rw [hr] at h3; exact h3.elim
    | ok p f v s1 =>
      rw [hr] at h3
      by_cases hq : opCls o.op ≤ 1
      · have := stp_self_q hq hr; subst this
        exact ⟨v, none, .inr ⟨h1, h2, hc, fun _ => rfl, p, f, hr, h3.1⟩, h3.2⟩
      · have h2' : opCls o.op = 2 := by omega
        obtain ⟨z, hz⟩ : ∃ z, s1 = s.app (some z) := by
          obtain ⟨dst, op, ty, pos, after, guard⟩ := o
          cases op with
          | alloc t =>
            simp only [stp, allocR] at hr
            split at hr
            · simp only [SR.ok.injEq] at hr
              exact ⟨_, hr.2.2.2.symm⟩
            · cases hr
          | call c =>
            obtain ⟨f, as, tys⟩ := c
            cases f with
            | value f => simp [opCls] at h2'
            | invoke r m => simp [opCls] at h2'
            | builtin b => cases b <;> simp [opCls] at h2'
          | _ => simp [opCls] at h2'
        subst hz
        exact ⟨v, some z, .inr ⟨h1, h2, hc, fun h => absurd h hq, p, f, hr, h3.1⟩, h3.2⟩

theorem aOp_det (hd : DetAt TT all T A s o v e) (h : aOp TT all T A o K s) : K ((s.app e).put o.dst v) := by
  rcases hd with ⟨h1, rfl, rfl⟩ | ⟨h1, h2, h3, h4, p, f, h5, h6⟩
  · rcases h with ⟨_, k⟩ | ⟨k, _⟩
    · exact k
    · rw [h1] at k; cases k
  · rcases h with ⟨k, _⟩ | ⟨_, _, k⟩
    · rw [h1] at k; cases k
    · rw [h5] at k; exact k.2

theorem aOp_of_det (hd : DetAt TT all T A s o v e) (h : K ((s.app e).put o.dst v)) : aOp TT all T A o K s := by
  rcases hd with ⟨h1, rfl, rfl⟩ | ⟨h1, h2, h3, h4, p, f, h5, h6⟩
  · exact .inl ⟨h1, h⟩
  · exact .inr ⟨h1, h2, by rw [h5]; exact ⟨h6, h⟩⟩

/-- What else happens does not matter. -/
theorem DetAt.stable (hd : DetAt TT all T A s o v e) (hl : ∀ t ∈ o.looksAt all, getE s'.env t = getE s.env t)
    (hch : guardV all s o = some true → (opCls o.op = 1 → ∀ i, i ∉ T → i ∉ A → s'.objs[i]? = s.objs[i]?) ∧ (opCls o.op = 2 → s'.objs.length = s.objs.length)) : DetAt TT all T A s' o v e := by
  rcases hd with ⟨h1, rfl, rfl⟩ | ⟨h1, h2, h3, h4, p, f, h5, h6⟩
  · exact .inl ⟨by rw [guardV_congr hl]; exact h1, rfl, rfl⟩
  · obtain ⟨hc1, hc2⟩ := hch h1
    refine .inr ⟨by rw [guardV_congr hl]; exact h1, by rw [cleanB_congr (agr_of hl) hc2]; exact h2, h3, h4, p, f, ?_, h6⟩
    by_cases hq : opCls o.op ≤ 1
    · have := h4 hq; subst this
      rw [stp_q TT hq s s' (agr_of hl) (fun i hi => ?_), h5]
      · rfl
      · by_cases h0 : opCls o.op = 1
        · obtain ⟨k1, k2⟩ := clean_rd h2 hi
          exact hc1 h0 i k1 k2
        · exfalso
          cases ho : o.op with
          | load t x => rw [ho] at h0; exact h0 rfl
          | lookup t x y c => rw [ho] at h0; exact h0 rfl
          | _ => rw [ho] at hi; simp [rdO] at hi
    · have h2' : opCls o.op = 2 := by omega
      obtain ⟨dst, op, ty, pos, after, guard⟩ := o
      cases op with
      | alloc t =>
        simp only [stp, allocR] at h5 ⊢
        have hlen := hc2 h2'
        split at h5
        · rename_i z hz
          simp only [SR.ok.injEq] at h5
          obtain ⟨rfl, rfl, rfl, h7⟩ := h5
          have he : e = some z := by
            cases e with
            | none =>
              have := congrArg (fun s => s.objs.length) h7
              simp [AS.app] at this
            | some z' =>
              have := congrArg AS.objs h7
              simpa [AS.app] using this.symm
          subst he
          rw [hlen]; rfl
        · cases h5
      | call c =>
        obtain ⟨f, as, tys⟩ := c
        cases f with
        | value f => simp [opCls] at h2'
        | invoke r m => simp [opCls] at h2'
        | builtin b => cases b <;> simp [opCls] at h2'
      | _ => simp [opCls] at h2'

def compat (c d : Nat) : Bool :=
  match c with
  | 0 => true
  | 1 => decide (d ≤ 3)
  | 2 => decide (d ≤ 1) || d == 3
  | 3 => decide (d ≤ 2)
  | 5 => d == 0 || d == 5
  | _ => false

/-- With the mark: a store's variable is neither read, nor handed to calls. -/
def compatM (m : Bool) (c d : Nat) : Bool := compat c d || (m && ((Nat.beq d 5 && (Nat.beq c 1 || Nat.beq c 3)) || (Nat.beq c 5 && Nat.beq d 1)))

theorem cls3_clean {op : Op} (h : opCls op = 3) : cleanB T A s op = true := by
  cases op <;> first | rfl | simp [opCls] at h

def SR.setO (e : List (Nat × AV)) (o : List AO) : SR → SR
  | .ok p f v s => .ok p f v { s with env := e, objs := o }
  | .call g args => .call g args
  | .stop => .stop

theorem stp_ch {op : Op} (hc : opCls op = 3) (s : AS) (e : List (Nat × AV)) (ob : List AO) (ha : agr s { s with env := e, objs := ob } op) : stp TT { s with env := e, objs := ob } op = (stp TT s op).setO e ob := by
  unfold agr at ha
  cases op with
  | call c =>
    obtain ⟨f, args, tys⟩ := c
    cases f with
    | value f =>
      have hm : args.toList.map (ev { s with env := e, objs := ob }) = args.toList.map (ev s) := map_congr_ev fun x hx => ha x (by simp [Op.operands, Call.operands]; exact .inr (by simpa using hx))
      have hf := ha f (by simp [Op.operands, Call.operands])
      simp only [stp, callS, hm, hf]
      unfold callR; split <;> rfl
    | invoke r m => rfl
    | builtin b =>
      have hm : args.toList.map (ev { s with env := e, objs := ob }) = args.toList.map (ev s) := map_congr_ev fun x hx => ha x (by simpa [Op.operands, Call.operands] using hx)
      cases b <;> first | (simp [opCls] at hc; done) | skip
      simp only [stp, callS]
      generalize tys.toList = tl
      cases hargs : args.toList with
      | nil => rfl
      | cons x l =>
        cases l with
        | nil => rfl
        | cons y l =>
          cases l with
          | cons z l => rfl
          | nil =>
            rw [hargs] at hm
            have hx : ev { s with env := e, objs := ob } x = ev s x ∧ ev { s with env := e, objs := ob } y = ev s y := by simpa using hm
            cases tl with
            | nil => rfl
            | cons T tl => cases tl with
              | nil => rfl
              | cons U tl => cases tl with
                | cons _ _ => rfl
                | nil =>
                  dsimp only
                  rw [hx.1, hx.2]
                  split
                  · unfold appR; dsimp only; (repeat' split) <;> rfl
                  · rfl
  | _ => simp [opCls] at hc

theorem stp_ch_self {op : Op} (hc : opCls op = 3) {p f : Prop} {s2 : AS} (h : stp TT s op = .ok p f v s2) : s2.objs = s.objs := by
  have := stp_ch (TT := TT) hc s s.env s.objs (fun _ _ => rfl)
  rw [show ({ s with env := s.env, objs := s.objs } : AS) = s from rfl, h] at this
  simp only [SR.setO, SR.ok.injEq, true_and] at this
  rw [this]

theorem getE_put_ne {d : Option Nat} {u : AV} {t : Nat} (h : d ≠ some t) : getE (s.put d u).env t = getE s.env t := by rw [getE_put, if_neg h]

/-- What surely comes now may come later. -/
theorem swap1 (hap : oi.apart all oj = true) (hcm : compat (opCls oi.op) (opCls oj.op) = true) (hK : Inv K) (hi : DetAt TT all T A s oi v e) (hj : aOp TT all T A oj K ((s.app e).put oi.dst v)) :
    aOp TT all T A oj (fun s' => DetAt TT all T A s' oi v e ∧ K ((s'.app e).put oi.dst v)) s := by
  obtain ⟨ha1, ha2, ha3⟩ := Oper.apart_spec hap
  -- the state behind oi
  have hl : ∀ t ∈ oj.looksAt all, getE ((s.app e).put oi.dst v).env t = getE s.env t := fun t ht => by
    rw [getE_put_ne (fun hd => ha1 t hd ht), app_env]
  have hg := guardV_congr (all := all) (o := oj) hl
  have hag := agr_of (all := all) (o := oj) hl
  have hsw : ∀ (u : AV) (s2 : AS), Eqv (((s2.app e).put oi.dst v).put oj.dst u) (((s2.put oj.dst u).app e).put oi.dst v) := fun u s2 => by
    rw [app_put]
    exact Eqv.comm _ (fun t ht hd => ha2 t ht hd) v u
  have hli : ∀ (u : AV) (s2 : AS), s2.env = s.env → ∀ t ∈ oi.looksAt all, getE (s2.put oj.dst u).env t = getE s.env t := fun u s2 he t ht => by
    rw [getE_put_ne (fun hd => ha3 t hd ht), he]
  have hAe : ∀ z, e = some z → opCls oi.op = 2 ∧ s.objs.length ∈ A ∧ s.objs.length ∉ T := by
    rintro z rfl
    rcases hi with ⟨_, _, h⟩ | ⟨_, h2, h3, h4, _⟩
    · cases h
    · have hc2 : opCls oi.op = 2 := by
        rcases Nat.lt_or_ge (opCls oi.op) 2 with h | h
        · have := h4 (by omega); cases this
        · omega
      refine ⟨hc2, ?_⟩
      cases ho : oi.op with
      | alloc t => rw [ho] at h2; simpa [cleanB] using h2
      | call c =>
        rw [ho] at hc2
        obtain ⟨f, as, tys⟩ := c
        cases f with
        | value f => simp [opCls] at hc2
        | invoke r m => simp [opCls] at hc2
        | builtin b => cases b <;> simp [opCls] at hc2
      | _ => rw [ho] at hc2; simp [opCls] at hc2
  rcases hj with ⟨h1, h2⟩ | ⟨h1, h2, h3⟩
  · exact .inl ⟨by rw [← hg]; exact h1, hi.stable (hli _ s rfl) (fun _ => ⟨fun _ i _ _ => by rw [put_objs], fun _ => by rw [put_objs]⟩), hK _ _ (hsw _ s) h2⟩
  refine .inr ⟨by rw [← hg]; exact h1, ?_⟩
  have hclean : cleanB T A s oj.op = true := by
    rw [← cleanB_congr hag (fun hc2 => ?_)]
    · exact h2
    · cases e with
      | none => rw [put_objs]; rfl
      | some z =>
        obtain ⟨k, _⟩ := hAe z rfl
        rw [k, hc2] at hcm
        simp [compat] at hcm
  refine ⟨hclean, ?_⟩
  by_cases hq : opCls oj.op ≤ 1
  · have e1 : stp TT s oj.op = (stp TT ((s.app e).put oi.dst v) oj.op).setS s := stp_q TT hq _ s (fun x hx => (hag x hx).symm) (fun i hi' => by
      obtain ⟨k1, k2⟩ := clean_rd h2 hi'
      rw [put_objs]
      cases e with
      | none => rfl
      | some z =>
        obtain ⟨_, k3, _⟩ := hAe z rfl
        simp only [AS.app]
        rcases Nat.lt_trichotomy i s.objs.length with h | h | h
        · rw [List.getElem?_append_left h]
        · subst h; exact absurd k3 k2
        · rw [List.getElem?_eq_none (by omega), List.getElem?_eq_none (by simp; omega)])
    rw [e1]
    cases hr : stp TT ((s.app e).put oi.dst v) oj.op with
    | call g args => have := stp_call_cls hr; omega
    | stop => rw [hr] at h3; exact h3.elim
    | ok p f u s1 =>
      have := stp_self_q hq hr; subst this
      rw [hr] at h3
      exact ⟨h3.1, hi.stable (hli _ s rfl) (fun _ => ⟨fun _ i _ _ => by rw [put_objs], fun _ => by rw [put_objs]⟩), hK _ _ (hsw u s) h3.2⟩
  · -- oj is no reader: if oi made a variable, oj is a call
    have hs1 : ((s.app e).put oi.dst v) = { s with env := ((s.app e).put oi.dst v).env, objs := (s.app e).objs } := by
      rw [put_as]; cases e <;> rfl
    by_cases hc3 : opCls oj.op = 3
    · have e1 := stp_ch (TT := TT) hc3 s ((s.app e).put oi.dst v).env (s.app e).objs (by rw [← hs1]; exact hag)
      rw [← hs1] at e1
      rw [e1] at h3
      cases hr : stp TT s oj.op with
      | stop => rw [hr] at h3; exact h3.elim
      | ok p f u s2 =>
        rw [hr] at h3
        have k1 := stp_self_env _ hr
        have k2 := stp_ch_self hc3 hr
        obtain ⟨k3, k4⟩ := h3
        refine ⟨k3, hi.stable (hli u s2 k1) (fun _ => ⟨fun _ i _ _ => by rw [put_objs, k2], fun _ => by rw [put_objs, k2]⟩), ?_⟩
        refine hK _ _ ?_ k4
        refine Eqv.trans ?_ (hsw u s2)
        refine Eqv.put ?_ _ _
        refine ⟨?_, ?_, ?_, fun t => ?_⟩
        · rw [put_objs]; cases e <;> simp [AS.app, k2]
        · rw [put_toks, app_toks]
        · rw [put_nt, app_nt]
        · show getE ((s.app e).put oi.dst v).env t = _
          rw [getE_put, getE_put, app_env, app_env, k1]
      | call g args =>
        rw [hr] at h3
        simp only [SR.setO, aStp, put_objs, put_toks, put_nt, app_toks, app_nt] at h3
        have h4 : CallD P T s.objs s.toks s.nt g args fun v' o t m => K (({ ((s.app e).put oi.dst v) with objs := (({ s with objs := o } : AS).app e).objs, toks := t, nt := m } : AS).put oj.dst v') := by
          cases e with
          | none => exact h3
          | some z => exact CallD.unpush (hAe z rfl).2.2 h3
        simp only [aStp]
        refine CallD.mono h4 fun u o t m k1 k2 k3 => ⟨hi.stable (hli u { s with objs := o, toks := t, nt := m } rfl) (fun _ => ⟨fun _ i hT _ => by rw [put_objs]; exact k2 i hT, fun _ => by rw [put_objs]; exact k1⟩), ?_⟩
        refine hK _ _ ?_ k3
        refine Eqv.trans ?_ (hsw u { s with objs := o, toks := t, nt := m })
        refine Eqv.put ?_ _ _
        refine ⟨?_, ?_, ?_, fun t => ?_⟩
        · rw [put_objs]; cases e <;> rfl
        · rw [put_toks, app_toks]
        · rw [put_nt, app_nt]
        · show getE ((s.app e).put oi.dst v).env t = _
          rw [getE_put, getE_put, app_env, app_env]
    · -- the variables are as they were
      have he : e = none := by
        cases e with
        | none => rfl
        | some z =>
          obtain ⟨k, _⟩ := hAe z rfl
          rw [k] at hcm
          simp only [compat, Bool.or_eq_true, decide_eq_true_eq, beq_iff_eq] at hcm
          omega
      subst he
      have e1 := stp_env TT oj.op s ((s.app none).put oi.dst v).env (by rw [show ({ s with env := ((s.app none).put oi.dst v).env } : AS) = (s.app none).put oi.dst v by rw [put_as]; rfl]; exact hag)
      rw [show ({ s with env := ((s.app none).put oi.dst v).env } : AS) = (s.app none).put oi.dst v by rw [put_as]; rfl] at e1
      rw [e1] at h3
      cases hr : stp TT s oj.op with
      | stop => rw [hr] at h3; exact h3.elim
      | call g args => exact absurd (stp_call_cls hr) hc3
      | ok p f u s2 =>
        rw [hr] at h3
        have k1 := stp_self_env _ hr
        obtain ⟨k3, k4⟩ := h3
        refine ⟨k3, hi.stable (hli u s2 k1) (fun hgt => ?_), ?_⟩
        · constructor
          · intro hc1 i hiT hiA
            rw [put_objs]
            -- oj is an alloc
            rw [hc1] at hcm
            simp only [compat, decide_eq_true_eq] at hcm
            have hj2 : opCls oj.op = 2 := by omega
            cases ho : oj.op with
            | alloc t =>
              rw [ho] at hr hclean
              simp only [stp, allocR] at hr
              split at hr
              · simp only [SR.ok.injEq] at hr
                obtain ⟨_, _, _, rfl⟩ := hr
                dsimp only
                rcases Nat.lt_trichotomy i s.objs.length with h | h | h
                · rw [List.getElem?_append_left h]
                · subst h
                  simp only [cleanB, Bool.and_eq_true, List.contains_eq_mem, decide_eq_true_eq] at hclean
                  exact absurd hclean.1 hiA
                · rw [List.getElem?_eq_none (by simp; omega), List.getElem?_eq_none (by omega)]
              · cases hr
            | call c =>
              rw [ho] at hj2
              obtain ⟨f, as, tys⟩ := c
              cases f with
              | value f => simp [opCls] at hj2
              | invoke r m => simp [opCls] at hj2
              | builtin b => cases b <;> simp [opCls] at hj2
            | _ => rw [ho] at hj2; simp [opCls] at hj2
          · intro hc2
            rw [hc2] at hcm
            simp only [compat, Bool.or_eq_true, decide_eq_true_eq, beq_iff_eq] at hcm
            omega
        · refine hK _ _ ?_ k4
          refine Eqv.trans ?_ (hsw u s2)
          refine Eqv.put ?_ _ _
          refine ⟨?_, ?_, ?_, fun t => ?_⟩
          · rw [put_objs]; rfl
          · rw [put_toks]; rfl
          · rw [put_nt]; rfl
          · show getE ((s.app none).put oi.dst v).env t = _
            rw [getE_put, getE_put, app_env, app_env, k1]

end
end Go.AL

namespace Go.AL
open Go
set_option linter.unusedSectionVars false
variable [Inhabited Glob]
set_option linter.unusedSimpArgs false
set_option linter.unusedVariables false

section
variable {P : Program} {TT : Tab P} {all : Array Oper} {T A : List Nat} {o oi oj : Oper} {s s' : AS} {K K' : AS → Prop} {v : AV} {e : Option (List DV)} {e' : Option (Nat × AO)}

/-- A call comes first: what it does not touch may come before it. -/
theorem swap2 (hap : oi.apart all oj = true) (hci : opCls oi.op = 3) (hcj : opCls oj.op ≤ 2) (hK : Inv K) (h : aOp TT all T A oi (fun s' => aOp TT all T A oj K s') s) :
    aOp TT all T A oj (fun s' => aOp TT all T A oi K s') s := by
  obtain ⟨ha1, ha2, ha3⟩ := Oper.apart_spec hap
  have hback : ∀ (u : AV) (s2 : AS), s2.env = s.env → ∀ t ∈ oj.looksAt all, getE s.env t = getE (s2.put oi.dst u).env t := fun u s2 he t ht => by
    rw [getE_put_ne (fun hd => ha1 t hd ht), he]
  rcases h with ⟨h1, h2⟩ | ⟨h1, h2, h3⟩
  · -- oi is not wanted
    have hd : DetAt TT all T A s oi (.tup []) none := .inl ⟨h1, rfl, rfl⟩
    obtain ⟨u, e, q1, q2⟩ := det_of_aOp hcj h2
    have q1' : DetAt TT all T A s oj u e := q1.stable (hback _ s rfl) (fun _ => ⟨fun _ i _ _ => by rw [put_objs], fun _ => by rw [put_objs]⟩)
    refine aOp_of_det q1' (.inl ⟨?_, ?_⟩)
    · rw [← h1]
      refine guardV_congr fun t ht => ?_
      rw [getE_put_ne (fun hd => ha3 t hd ht), app_env]
    · refine hK _ _ ?_ q2
      rw [app_put]
      exact Eqv.comm _ (fun t ht hd => ha2 t ht hd) _ _
  · cases hr : stp TT s oi.op with
    | stop => rw [hr] at h3; exact h3.elim
    | ok p f v0 s2 =>
      rw [hr] at h3
      obtain ⟨k3, k4⟩ := h3
      have k1 := stp_self_env _ hr
      have k2 := stp_ch_self hci hr
      obtain ⟨u, e, q1, q2⟩ := det_of_aOp hcj k4
      have q1' : DetAt TT all T A s oj u e := q1.stable (hback _ s2 k1) (fun _ => ⟨fun _ i _ _ => by rw [put_objs, k2], fun _ => by rw [put_objs, k2]⟩)
      have hl : ∀ t ∈ oi.looksAt all, getE ((s.app e).put oj.dst u).env t = getE s.env t := fun t ht => by
        rw [getE_put_ne (fun hd => ha3 t hd ht), app_env]
      have hs1 : ((s.app e).put oj.dst u) = { s with env := ((s.app e).put oj.dst u).env, objs := (s.app e).objs } := by
        rw [put_as]; cases e <;> rfl
      refine aOp_of_det q1' (.inr ⟨by rw [← h1]; exact guardV_congr hl, cls3_clean hci, ?_⟩)
      have e1 := stp_ch (TT := TT) hci s ((s.app e).put oj.dst u).env (s.app e).objs (by rw [← hs1]; exact agr_of hl)
      rw [← hs1, hr] at e1
      rw [e1]
      refine ⟨k3, hK _ _ ?_ q2⟩
      rw [app_put]
      refine Eqv.trans (Eqv.comm _ (fun t ht hd => ha2 t ht hd) _ _) (Eqv.put ?_ _ _)
      refine ⟨?_, ?_, ?_, fun t => ?_⟩
      · rw [put_objs]; cases e <;> simp [AS.app, k2]
      · rw [put_toks, app_toks]
      · rw [put_nt, app_nt]
      · show _ = getE ((s.app e).put oj.dst u).env t
        rw [getE_put, getE_put, app_env, app_env, k1]
    | call g args =>
      rw [hr] at h3
      simp only [aStp] at h3
      obtain ⟨v0, o0, t0, m0, p1, p2, p3⟩ := CallD.inh h3
      obtain ⟨u, e, q1, q2⟩ := det_of_aOp hcj p3
      have q1' : DetAt TT all T A s oj u e := q1.stable (hback _ { s with objs := o0, toks := t0, nt := m0 } rfl)
        (fun _ => ⟨fun _ i hT _ => by rw [put_objs]; exact (p2 i hT).symm, fun _ => by rw [put_objs]; exact p1.symm⟩)
      have hl : ∀ t ∈ oi.looksAt all, getE ((s.app e).put oj.dst u).env t = getE s.env t := fun t ht => by
        rw [getE_put_ne (fun hd => ha3 t hd ht), app_env]
      have hs1 : ((s.app e).put oj.dst u) = { s with env := ((s.app e).put oj.dst u).env, objs := (s.app e).objs } := by
        rw [put_as]; cases e <;> rfl
      refine aOp_of_det q1' (.inr ⟨by rw [← h1]; exact guardV_congr hl, cls3_clean hci, ?_⟩)
      have e1 := stp_ch (TT := TT) hci s ((s.app e).put oj.dst u).env (s.app e).objs (by rw [← hs1]; exact agr_of hl)
      rw [← hs1, hr] at e1
      rw [e1]
      simp only [SR.setO, aStp, put_objs, put_toks, put_nt, app_toks, app_nt]
      have h4 : CallD P T s.objs s.toks s.nt g args fun v' o t m => K ((({ ((s.app e).put oj.dst u) with objs := (({ s with objs := o } : AS).app e).objs, toks := t, nt := m } : AS)).put oi.dst v') := by
        refine CallD.mono h3 fun w o t m r1 r2 r3 => ?_
        have d2 : DetAt TT all T A (({ s with objs := o, toks := t, nt := m } : AS).put oi.dst w) oj u e := q1'.stable (fun t' ht => (hback w { s with objs := o, toks := t, nt := m } rfl t' ht).symm)
          (fun _ => ⟨fun _ i hT _ => by rw [put_objs]; exact r2 i hT, fun _ => by rw [put_objs]; exact r1⟩)
        refine hK _ _ ?_ (aOp_det d2 r3)
        rw [app_put]
        refine Eqv.trans (Eqv.comm _ (fun t ht hd => ha2 t ht hd) _ _) (Eqv.put ?_ _ _)
        refine ⟨?_, ?_, ?_, fun t => ?_⟩
        · rw [put_objs]; cases e <;> rfl
        · rw [put_toks, app_toks]
        · rw [put_nt, app_nt]
        · show _ = getE ((s.app e).put oj.dst u).env t
          rw [getE_put, getE_put, app_env, app_env]
      cases e with
      | none => exact h4
      | some z => exact CallD.push h4

/-! ### Stores -/

def AS.ste (s : AS) : Option (Nat × AO) → AS
  | none => s
  | some (o, c) => { s with objs := s.objs.set o c }
theorem ste_env (s : AS) (e : Option (Nat × AO)) : (s.ste e).env = s.env := by cases e <;> rfl
theorem ste_toks (s : AS) (e : Option (Nat × AO)) : (s.ste e).toks = s.toks := by cases e <;> rfl
theorem ste_nt (s : AS) (e : Option (Nat × AO)) : (s.ste e).nt = s.nt := by cases e <;> rfl
theorem ste_put (s : AS) (e : Option (Nat × AO)) (d : Option Nat) (v : AV) : (s.put d v).ste e = (s.ste e).put d v := by cases e <;> cases d <;> rfl
theorem ste_other (s : AS) {e : Option (Nat × AO)} {i : Nat} (h : ∀ o c, e = some (o, c) → o ≠ i) : (s.ste e).objs[i]? = s.objs[i]? := by
  cases e with
  | none => rfl
  | some p => obtain ⟨o, c⟩ := p; exact List.getElem?_set_ne (h o c rfl)
theorem ste_comm (s : AS) {e e' : Option (Nat × AO)} (h : ∀ o c o' c', e = some (o, c) → e' = some (o', c') → o ≠ o') : (s.ste e).ste e' = (s.ste e').ste e := by
  cases e with
  | none => rfl
  | some p => cases e' with
    | none => rfl
    | some p' =>
      obtain ⟨o, c⟩ := p; obtain ⟨o', c'⟩ := p'
      simp only [AS.ste]
      rw [List.set_comm _ _ (h o c o' c' rfl rfl)]
theorem Eqv.ste {s s' : AS} (h : Eqv s s') (e : Option (Nat × AO)) : Eqv (s.ste e) (s'.ste e) := by
  obtain ⟨h1, h2, h3, h4⟩ := h
  cases e with
  | none => exact ⟨h1, h2, h3, h4⟩
  | some p => exact ⟨by simp only [AS.ste, h1], h2, h3, h4⟩

variable (TT all T A) in
/-- What a store does. -/
def DetS (s : AS) (o : Oper) (v : AV) (e : Option (Nat × AO)) : Prop :=
  (guardV all s o = some false ∧ v = .tup [] ∧ e = none) ∨
  (guardV all s o = some true ∧ cleanB T A s o.op = true ∧ ∃ Ty x y b off cs ys, o.op = .store Ty x y ∧ ev s x = .ptr b off ∧ s.objs[b]? = some (.cells cs) ∧ (ev s y).cells = some ys ∧
    ((TT.T Ty).t.known = true ∧ ys.length = (TT.T Ty).size ∧ off + ys.length ≤ cs.length) ∧ v = .unk ∧ e = some (b, .cells (layL cs off ys)))

theorem cls5 {op : Op} (h : opCls op = 5) : ∃ Ty x y, op = .store Ty x y := by
  cases op with
  | store Ty x y => exact ⟨Ty, x, y, rfl⟩
  | call c =>
    obtain ⟨f, as, tys⟩ := c
    cases f with
    | value f => simp [opCls] at h
    | invoke r m => simp [opCls] at h
    | builtin b => cases b <;> simp [opCls] at h
  | _ => simp [opCls] at h

theorem detS_of_aOp (hc : opCls o.op = 5) (h : aOp TT all T A o K s) : ∃ v e, DetS TT all T A s o v e ∧ K ((s.ste e).put o.dst v) := by
  rcases h with ⟨h1, h2⟩ | ⟨h1, h2, h3⟩
  · exact ⟨.tup [], none, .inl ⟨h1, rfl, rfl⟩, h2⟩
  · obtain ⟨Ty, x, y, ho⟩ := cls5 hc
    rw [ho] at h3
    simp only [stp, storeR] at h3
    split at h3
    · rename_i b off ys hx hy
      split at h3
      · rename_i cs hb
        exact ⟨.unk, some (b, .cells (layL cs off ys)), .inr ⟨h1, h2, Ty, x, y, b, off, cs, ys, ho, hx, hb, hy, h3.1, rfl, rfl⟩, h3.2⟩
      · exact h3.elim
    · exact h3.elim

theorem aOp_of_detS (hd : DetS TT all T A s o v e') (h : K ((s.ste e').put o.dst v)) : aOp TT all T A o K s := by
  rcases hd with ⟨h1, rfl, rfl⟩ | ⟨h1, h2, Ty, x, y, b, off, cs, ys, ho, hx, hb, hy, hp, rfl, rfl⟩
  · exact .inl ⟨h1, h⟩
  · refine .inr ⟨h1, h2, ?_⟩
    rw [ho]
    simp only [stp, storeR, hx, hy, hb]
    exact ⟨hp, h⟩

theorem DetS.stable (hd : DetS TT all T A s o v e') (hl : ∀ t ∈ o.looksAt all, getE s'.env t = getE s.env t) (hob : ∀ b c, e' = some (b, c) → s'.objs[b]? = s.objs[b]?) : DetS TT all T A s' o v e' := by
  rcases hd with ⟨h1, rfl, rfl⟩ | ⟨h1, h2, Ty, x, y, b, off, cs, ys, ho, hx, hb, hy, hp, rfl, rfl⟩
  · exact .inl ⟨by rw [guardV_congr hl]; exact h1, rfl, rfl⟩
  · have ha := agr_of hl
    have hax : ev s' x = ev s x := ha x (by rw [ho]; simp [Op.operands])
    have hay : ev s' y = ev s y := ha y (by rw [ho]; simp [Op.operands])
    exact .inr ⟨by rw [guardV_congr hl]; exact h1, by rw [cleanB_congr ha (fun hc => by rw [ho] at hc; simp [opCls] at hc)]; exact h2, Ty, x, y, b, off, cs, ys, ho, by rw [hax]; exact hx, by rw [hob b _ rfl]; exact hb, by rw [hay]; exact hy, hp, rfl, rfl⟩

/-- Which slot a store's pointer lies in. -/
def stSlot (o : Oper) : Option Nat :=
  match o.op with
  | .store _ (.tmp t) _ => some t
  | _ => none
/-- The list of variables tells of each slot one variable, of each variable one slot. -/
def strictA (A : List Nat) : Bool := A.contains stMark && A.all fun a => A.all fun b => Nat.blt a 1000000 || Nat.blt b 1000000 || Nat.beq a b || !Nat.beq (a % 1000) (b % 1000)

theorem detS_apart {si sj : AS} {vi vj : AV} {ei ej : Option (Nat × AO)} (hA : strictA A = true) (hne : ∀ t, stSlot oi = some t → stSlot oj ≠ some t) (hi : DetS TT all T A si oi vi ei) (hj : DetS TT all T A sj oj vj ej) :
    ∀ b c b' c', ei = some (b, c) → ej = some (b', c') → b ≠ b' := by
  simp only [strictA, Bool.and_eq_true, List.all_eq_true] at hA
  obtain ⟨hm, hA⟩ := hA
  have key : ∀ {o : Oper} {s : AS} {v : AV} {e : Option (Nat × AO)}, DetS TT all T A s o v e → ∀ b c, e = some (b, c) → ∃ t, stSlot o = some t ∧ b < 1000 ∧ stC t b ∈ A := by
    rintro o s v e (⟨_, _, rfl⟩ | ⟨_, h2, Ty, x, y, b, off, cs, ys, ho, hx, _, _, _, _, rfl⟩) b' c' h
    · cases h
    · cases h
      rw [ho] at h2
      simp only [cleanB, stB, hm, Bool.not_true, Bool.false_or, hx] at h2
      cases x with
      | tmp t =>
        simp only [Bool.and_eq_true, decide_eq_true_eq] at h2
        exact ⟨t, by simp [stSlot, ho], h2.1.1.1, by simpa using h2.1.1.2⟩
      | _ => simp at h2
  intro b c b' c' h h' hb
  subst hb
  obtain ⟨t, h1, h2, h3⟩ := key hi b c h
  obtain ⟨t', h1', h2', h3'⟩ := key hj b c' h'
  have htt : t ≠ t' := fun e => hne t h1 (by rw [h1', e])
  have := hA _ h3 _ h3'
  simp only [Bool.or_eq_true, Nat.blt_eq, Bool.not_eq_true', stC] at this
  rcases this with ((h | h) | h) | h
  · omega
  · omega
  · have := Nat.eq_of_beq_eq_true h; omega
  · have h5 : Nat.beq ((1000000 + t * 1000 + b) % 1000) ((1000000 + t' * 1000 + b) % 1000) = true := by
      have : (1000000 + t * 1000 + b) % 1000 = (1000000 + t' * 1000 + b) % 1000 := by omega
      rw [this]; exact Nat.beq_refl _
    rw [h5] at h; cases h

/-- Two stores change places. -/
theorem swap5 (hA : strictA A = true) (hne : ∀ t, stSlot oi = some t → stSlot oj ≠ some t) (hap : oi.apart all oj = true) (hci : opCls oi.op = 5) (hcj : opCls oj.op = 5) (hK : Inv K) (h : aOp TT all T A oi (fun s' => aOp TT all T A oj K s') s) :
    aOp TT all T A oj (fun s' => aOp TT all T A oi K s') s := by
  obtain ⟨ha1, ha2, ha3⟩ := Oper.apart_spec hap
  obtain ⟨v, e1, hd, h2⟩ := detS_of_aOp hci h
  obtain ⟨u, e2, hd2, h3⟩ := detS_of_aOp hcj h2
  have hap2 := detS_apart hA hne hd hd2
  have d2 : DetS TT all T A s oj u e2 := hd2.stable (fun t ht => by rw [getE_put_ne (fun hd => ha1 t hd ht), ste_env]) (fun b c hb => by rw [put_objs]; exact (ste_other s fun o c' ho => hap2 o c' b c ho hb).symm)
  have d1 : DetS TT all T A ((s.ste e2).put oj.dst u) oi v e1 := hd.stable (fun t ht => by rw [getE_put_ne (fun hd => ha3 t hd ht), ste_env]) (fun b c hb => by rw [put_objs]; exact ste_other s fun o c' ho => (hap2 b c o c' hb ho).symm)
  refine aOp_of_detS d2 (aOp_of_detS d1 (hK _ _ ?_ h3))
  rw [ste_put, ste_put, ste_comm s hap2]
  exact Eqv.comm _ (fun t ht hd => ha2 t ht hd) _ _

theorem aOp_detS (hd : DetS TT all T A s o v e') (h : aOp TT all T A o K s) : K ((s.ste e').put o.dst v) := by
  rcases hd with ⟨h1, rfl, rfl⟩ | ⟨h1, h2, Ty, x, y, b, off, cs, ys, ho, hx, hb, hy, hp, rfl, rfl⟩
  · rcases h with ⟨_, k⟩ | ⟨k, _⟩
    · exact k
    · rw [h1] at k; cases k
  · rcases h with ⟨k, _⟩ | ⟨_, _, k⟩
    · rw [h1] at k; cases k
    · rw [ho] at k
      simp only [stp, storeR, hx, hy, hb] at k
      exact k.2

theorem detS_obj (hm : A.contains stMark = true) (hd : DetS TT all T A s o v e') : ∀ b c, e' = some (b, c) → b ∈ A ∧ b ∉ T := by
  intro b' c' h
  rcases hd with ⟨_, _, rfl⟩ | ⟨_, h2, Ty, x, y, b, off, cs, ys, ho, hx, _, _, _, _, rfl⟩
  · cases h
  · cases h
    rw [ho] at h2
    simp only [cleanB, stB, hm, Bool.not_true, Bool.false_or, hx] at h2
    cases x with
    | tmp t =>
      simp only [Bool.and_eq_true, decide_eq_true_eq] at h2
      exact ⟨by simpa using h2.1.2, by simpa using h2.2⟩
    | _ => simp at h2

theorem det_none (hc : opCls o.op ≤ 1) (hd : DetAt TT all T A s o v e) : e = none := by
  rcases hd with ⟨_, _, h⟩ | ⟨_, _, _, h4, _⟩
  · exact h
  · exact h4 hc

/-- A load, and a store behind it, change places. -/
theorem swap15 (hm : A.contains stMark = true) (hap : oi.apart all oj = true) (hci : opCls oi.op = 1) (hcj : opCls oj.op = 5) (hK : Inv K) (h : aOp TT all T A oi (fun s' => aOp TT all T A oj K s') s) :
    aOp TT all T A oj (fun s' => aOp TT all T A oi K s') s := by
  obtain ⟨ha1, ha2, ha3⟩ := Oper.apart_spec hap
  obtain ⟨v, e1, hd, h2⟩ := det_of_aOp (by omega) h
  obtain rfl := det_none (by omega) hd
  obtain ⟨u, e2, hd2, h3⟩ := detS_of_aOp hcj h2
  have hobj := detS_obj hm hd2
  have d2 : DetS TT all T A s oj u e2 := hd2.stable (fun t ht => by rw [getE_put_ne (fun hd => ha1 t hd ht), app_env]) (fun b c hb => by rw [put_objs]; rfl)
  have d1 : DetAt TT all T A ((s.ste e2).put oj.dst u) oi v none := hd.stable (fun t ht => by rw [getE_put_ne (fun hd => ha3 t hd ht), ste_env])
    (fun _ => ⟨fun _ i _ hiA => by rw [put_objs]; exact ste_other s (i := i) fun o c ho he => hiA (by subst he; exact (hobj o c ho).1), fun h => by omega⟩)
  refine aOp_of_detS d2 (aOp_of_det d1 (hK _ _ ?_ h3))
  rw [ste_put]
  exact Eqv.comm _ (fun t ht hd => ha2 t ht hd) _ _

/-- A store, and a load behind it, change places. -/
theorem swap51 (hm : A.contains stMark = true) (hap : oi.apart all oj = true) (hci : opCls oi.op = 5) (hcj : opCls oj.op = 1) (hK : Inv K) (h : aOp TT all T A oi (fun s' => aOp TT all T A oj K s') s) :
    aOp TT all T A oj (fun s' => aOp TT all T A oi K s') s := by
  obtain ⟨ha1, ha2, ha3⟩ := Oper.apart_spec hap
  obtain ⟨v, e1, hd, h2⟩ := detS_of_aOp hci h
  have hobj := detS_obj hm hd
  obtain ⟨u, e2, hd2, h3⟩ := det_of_aOp (by omega) h2
  obtain rfl := det_none (by omega) hd2
  have d2 : DetAt TT all T A s oj u none := hd2.stable (fun t ht => by rw [getE_put_ne (fun hd => ha1 t hd ht), ste_env])
    (fun _ => ⟨fun _ i _ hiA => by rw [put_objs]; exact (ste_other s (i := i) fun o c ho he => hiA (by subst he; exact (hobj o c ho).1)).symm, fun h => by omega⟩)
  have d1 : DetS TT all T A ((s.app none).put oj.dst u) oi v e1 := hd.stable (fun t ht => by rw [getE_put_ne (fun hd => ha3 t hd ht), app_env]) (fun b c hb => by rw [put_objs]; rfl)
  refine aOp_of_det d2 (aOp_of_detS d1 (hK _ _ ?_ h3))
  rw [ste_put]
  exact Eqv.comm _ (fun t ht hd => ha2 t ht hd) _ _

theorem putObjs_set (b : Nat) (z : AO) : ∀ (is : List Nat) (objs os : List AO), os.length = is.length → b ∉ is → putObjs (objs.set b z) is os = (putObjs objs is os).set b z
  | [], objs, os, h, _ => by
    have : os = [] := List.eq_nil_of_length_eq_zero (by simpa using h)
    subst this; simp [putObjs]
  | i :: is, objs, [], h, _ => by simp at h
  | i :: is, objs, o :: os, h, hb => by
    simp only [putObjs]
    simp only [List.mem_cons, not_or] at hb
    rw [List.set_comm _ _ hb.1, putObjs_set b z is _ os (by simpa using h) hb.2]

theorem CallD.set {objs : List AO} {toks : List Nat} {nt : Nat} {g : FuncId} {args : List AV} {K : AV → List AO → List Nat → Nat → Prop} {b : Nat} {z : AO} (hT : b ∉ T) (h : CallD P T objs toks nt g args fun v o t m => K v (o.set b z) t m) : CallD P T (objs.set b z) toks nt g args K := by
  obtain ⟨lent, args', is, R, h1, h2, h3, h4, h5, h6, h7, h8⟩ := h
  have hb : b ∉ is := fun h => hT (h6 b h)
  refine ⟨lent, args', is, R, h1, h2, h3, ?_, h5, h6, h7, fun r os ts m hr => ?_⟩
  · rw [h4]
    exact List.map_congr_left fun i hi => (List.getElem?_set_ne (by rintro rfl; exact hb hi)).symm
  · obtain ⟨k1, k2, k3⟩ := h8 r os ts m hr
    refine ⟨k1, k2, ?_⟩
    rw [putObjs_set b z is objs os k1 hb, List.length_set]
    exact k3

/-- A call, and a store behind it, change places. -/
theorem swap35 (hm : A.contains stMark = true) (hap : oi.apart all oj = true) (hci : opCls oi.op = 3) (hcj : opCls oj.op = 5) (hK : Inv K) (h : aOp TT all T A oi (fun s' => aOp TT all T A oj K s') s) :
    aOp TT all T A oj (fun s' => aOp TT all T A oi K s') s := by
  obtain ⟨ha1, ha2, ha3⟩ := Oper.apart_spec hap
  have hback : ∀ (u : AV) (s2 : AS), s2.env = s.env → ∀ t ∈ oj.looksAt all, getE s.env t = getE (s2.put oi.dst u).env t := fun u s2 he t ht => by
    rw [getE_put_ne (fun hd => ha1 t hd ht), he]
  rcases h with ⟨h1, h2⟩ | ⟨h1, h2, h3⟩
  · obtain ⟨u, e, q1, q2⟩ := detS_of_aOp hcj h2
    have q1' : DetS TT all T A s oj u e := q1.stable (hback _ s rfl) (fun b c hb => by rw [put_objs])
    refine aOp_of_detS q1' (.inl ⟨?_, ?_⟩)
    · rw [← h1]
      refine guardV_congr fun t ht => ?_
      rw [getE_put_ne (fun hd => ha3 t hd ht), ste_env]
    · refine hK _ _ ?_ q2
      rw [ste_put]
      exact Eqv.comm _ (fun t ht hd => ha2 t ht hd) _ _
  · cases hr : stp TT s oi.op with
    | stop => rw [hr] at h3; exact h3.elim
    | ok p f v0 s2 =>
      rw [hr] at h3
      obtain ⟨k3, k4⟩ := h3
      have k1 := stp_self_env _ hr
      have k2 := stp_ch_self hci hr
      obtain ⟨u, e, q1, q2⟩ := detS_of_aOp hcj k4
      have q1' : DetS TT all T A s oj u e := q1.stable (hback _ s2 k1) (fun b c hb => by rw [put_objs, k2])
      have hl : ∀ t ∈ oi.looksAt all, getE ((s.ste e).put oj.dst u).env t = getE s.env t := fun t ht => by
        rw [getE_put_ne (fun hd => ha3 t hd ht), ste_env]
      have hs1 : ((s.ste e).put oj.dst u) = { s with env := ((s.ste e).put oj.dst u).env, objs := (s.ste e).objs } := by
        rw [put_as]; cases e <;> rfl
      refine aOp_of_detS q1' (.inr ⟨by rw [← h1]; exact guardV_congr hl, cls3_clean hci, ?_⟩)
      have e1 := stp_ch (TT := TT) hci s ((s.ste e).put oj.dst u).env (s.ste e).objs (by rw [← hs1]; exact agr_of hl)
      rw [← hs1, hr] at e1
      rw [e1]
      refine ⟨k3, hK _ _ ?_ q2⟩
      rw [ste_put]
      refine Eqv.trans (Eqv.comm _ (fun t ht hd => ha2 t ht hd) _ _) (Eqv.put ?_ _ _)
      refine ⟨?_, ?_, ?_, fun t => ?_⟩
      · rw [put_objs]; cases e <;> simp [AS.ste, k2]
      · rw [put_toks, ste_toks]
      · rw [put_nt, ste_nt]
      · show _ = getE ((s.ste e).put oj.dst u).env t
        rw [getE_put, getE_put, ste_env, ste_env, k1]
    | call g args =>
      rw [hr] at h3
      simp only [aStp] at h3
      obtain ⟨v0, o0, t0, m0, p1, p2, p3⟩ := CallD.inh h3
      obtain ⟨u, e, q1, q2⟩ := detS_of_aOp hcj p3
      have hobj := detS_obj hm q1
      have q1' : DetS TT all T A s oj u e := q1.stable (hback _ { s with objs := o0, toks := t0, nt := m0 } rfl)
        (fun b c hb => by rw [put_objs]; exact (p2 b (hobj b c hb).2).symm)
      have hl : ∀ t ∈ oi.looksAt all, getE ((s.ste e).put oj.dst u).env t = getE s.env t := fun t ht => by
        rw [getE_put_ne (fun hd => ha3 t hd ht), ste_env]
      have hs1 : ((s.ste e).put oj.dst u) = { s with env := ((s.ste e).put oj.dst u).env, objs := (s.ste e).objs } := by
        rw [put_as]; cases e <;> rfl
      refine aOp_of_detS q1' (.inr ⟨by rw [← h1]; exact guardV_congr hl, cls3_clean hci, ?_⟩)
      have e1 := stp_ch (TT := TT) hci s ((s.ste e).put oj.dst u).env (s.ste e).objs (by rw [← hs1]; exact agr_of hl)
      rw [← hs1, hr] at e1
      rw [e1]
      simp only [SR.setO, aStp, put_objs, put_toks, put_nt, ste_toks, ste_nt]
      have h4 : CallD P T s.objs s.toks s.nt g args fun v' o t m => K ((({ ((s.ste e).put oj.dst u) with objs := (({ s with objs := o } : AS).ste e).objs, toks := t, nt := m } : AS)).put oi.dst v') := by
        refine CallD.mono h3 fun w o t m r1 r2 r3 => ?_
        have d2 : DetS TT all T A (({ s with objs := o, toks := t, nt := m } : AS).put oi.dst w) oj u e := q1'.stable (fun t' ht => (hback w { s with objs := o, toks := t, nt := m } rfl t' ht).symm)
          (fun b c hb => by rw [put_objs]; exact r2 b (hobj b c hb).2)
        refine hK _ _ ?_ (aOp_detS d2 r3)
        rw [ste_put]
        refine Eqv.trans (Eqv.comm _ (fun t ht hd => ha2 t ht hd) _ _) (Eqv.put ?_ _ _)
        refine ⟨?_, ?_, ?_, fun t => ?_⟩
        · rw [put_objs]; cases e <;> rfl
        · rw [put_toks, ste_toks]
        · rw [put_nt, ste_nt]
        · show _ = getE ((s.ste e).put oj.dst u).env t
          rw [getE_put, getE_put, ste_env, ste_env]
      cases e with
      | none => exact h4
      | some p => obtain ⟨b, c⟩ := p; exact CallD.set (hobj b c rfl).2 h4

/-- A store, and what only computes, change places. -/
theorem swap50 (hap : oi.apart all oj = true) (hci : opCls oi.op = 5) (hcj : opCls oj.op = 0) (hK : Inv K) (h : aOp TT all T A oi (fun s' => aOp TT all T A oj K s') s) :
    aOp TT all T A oj (fun s' => aOp TT all T A oi K s') s := by
  obtain ⟨ha1, ha2, ha3⟩ := Oper.apart_spec hap
  obtain ⟨v, e1, hd, h2⟩ := detS_of_aOp hci h
  obtain ⟨u, e2, hd2, h3⟩ := det_of_aOp (by omega) h2
  have he2 : e2 = none := by
    rcases hd2 with ⟨_, _, h⟩ | ⟨_, _, _, h4, _⟩
    · exact h
    · exact h4 (by omega)
  subst he2
  have d2 : DetAt TT all T A s oj u none := hd2.stable (fun t ht => by rw [getE_put_ne (fun hd => ha1 t hd ht), ste_env]) (fun _ => ⟨fun h => by omega, fun h => by omega⟩)
  have d1 : DetS TT all T A ((s.app none).put oj.dst u) oi v e1 := hd.stable (fun t ht => by rw [getE_put_ne (fun hd => ha3 t hd ht), app_env]) (fun b c hb => by rw [put_objs]; rfl)
  refine aOp_of_det d2 (aOp_of_detS d1 (hK _ _ ?_ h3))
  rw [ste_put]
  exact Eqv.comm _ (fun t ht hd => ha2 t ht hd) _ _

/-! ### Equal states -/

theorem aOp_inv (hK : Inv K) : Inv (aOp TT all T A o K) := by
  rintro s s' ⟨h1, h2, h3, h4⟩ h
  have hl : ∀ t ∈ o.looksAt all, getE s'.env t = getE s.env t := fun t _ => (h4 t).symm
  have hs : s' = { s with env := s'.env } := by cases s; cases s'; simp_all
  have hg := guardV_congr hl
  rcases h with ⟨k1, k2⟩ | ⟨k1, k2, k3⟩
  · exact .inl ⟨by rw [hg]; exact k1, hK _ _ (Eqv.put ⟨h1, h2, h3, h4⟩ _ _) k2⟩
  · refine .inr ⟨by rw [hg]; exact k1, by rw [cleanB_congr (agr_of hl) (fun _ => by rw [h1])]; exact k2, ?_⟩
    have e1 := stp_env TT o.op s s'.env (by rw [← hs]; exact agr_of hl)
    rw [← hs] at e1
    rw [e1]
    cases hr : stp TT s o.op with
    | stop => rw [hr] at k3; exact k3.elim
    | ok p f v s2 =>
      rw [hr] at k3
      have k5 := stp_self_env _ hr
      refine ⟨k3.1, hK _ _ ?_ k3.2⟩
      refine Eqv.put ?_ _ _
      exact ⟨rfl, rfl, rfl, fun t => (congrArg (fun e => getE e t) k5).trans (h4 t)⟩
    | call g args =>
      rw [hr] at k3
      simp only [SR.setE, aStp] at k3 ⊢
      rw [← h1, ← h2, ← h3]
      refine CallD.mono k3 fun w o t m _ _ hx => hK _ _ ?_ hx
      refine Eqv.put ?_ _ _
      exact ⟨rfl, rfl, rfl, h4⟩

variable (TT all T A) in
/-- Whatever order is picked from here on. -/
def aAny (K : AS → Prop) : Nat → Array Bool → AS → Prop
  | 0, listed, s => Region.ready .any all listed = [] ∧ K s
  | fuel + 1, listed, s => (Region.ready .any all listed = [] → K s) ∧
    ∀ i ∈ Region.ready .any all listed, match all[i]? with
      | none => aAny K fuel (listed.setIfInBounds i true) s
      | some o => aOp TT all T A o (aAny K fuel (listed.setIfInBounds i true)) s

theorem aAny_inv (hK : Inv K) : ∀ (fuel : Nat) (listed : Array Bool), Inv (aAny TT all T A K fuel listed)
  | 0, listed, s, s', h, hh => ⟨hh.1, hK _ _ h hh.2⟩
  | fuel + 1, listed, s, s', h, hh => ⟨fun h0 => hK _ _ h (hh.1 h0), fun i hi => by
    have := hh.2 i hi
    cases ho : all[i]? with
    | none => rw [ho] at this; exact aAny_inv hK fuel _ s s' h this
    | some o => rw [ho] at this; exact aOp_inv (aAny_inv hK fuel _) s s' h this⟩

/-- j waits for i, perhaps by others. -/
inductive Dep (all : Array Oper) : Nat → Nat → Prop
  | one {j i : Nat} {o : Oper} {e : Edge} (ho : all[j]? = some o) (he : e ∈ o.after) (hb : Region.binds .any e = true) (h : e.on = i) : Dep all j i
  | more {j i : Nat} {o : Oper} {e : Edge} (ho : all[j]? = some o) (he : e ∈ o.after) (hb : Region.binds .any e = true) (h : Dep all e.on i) : Dep all j i

def Closed (all : Array Oper) (listed : Array Bool) : Prop := ∀ j o, all[j]? = some o → listed.getD j false = true → ∀ e ∈ o.after, Region.binds .any e = true → listed.getD e.on false = true

theorem Dep.listed {listed : Array Bool} (hcl : Closed all listed) {j i : Nat} (h : Dep all j i) : (∀ o, all[j]? = some o → ∀ e ∈ o.after, Region.binds .any e = true → listed.getD e.on false = true) → listed.getD i false = true := by
  induction h with
  | one ho he hb h => intro hj; rw [← h]; exact hj _ ho _ he hb
  | more ho he hb h ih => intro hj; exact ih fun o' ho' e' he' hb' => hcl _ o' ho' (hj _ ho _ he hb) e' he' hb'

theorem getD_ft {listed : Array Bool} {i : Nat} (h0 : listed.getD i true = false) : listed.getD i false = false := by
  rcases Nat.lt_or_ge i listed.size with h' | h'
  · simpa [h'] using h0
  · simp [Array.getElem?_eq_none h']

theorem Closed.set {listed : Array Bool} (hcl : Closed all listed) {j : Nat} (hj : j ∈ Region.ready .any all listed) : Closed all (listed.setIfInBounds j true) := by
  intro k o ho hk e he hb
  refine getD_set_true ?_
  by_cases hkj : j = k
  · subst hkj
    obtain ⟨_, o', ho', hall⟩ := mem_ready.1 hj
    rw [ho] at ho'; cases ho'
    exact hall e he hb
  · rw [getD_set_ne false hkj] at hk
    exact hcl k o ho hk e he hb

variable (A) in
/-- Two stores that are not ordered are told apart. -/
def StOK (all : Array Oper) : Prop := strictA A = true ∨ ∀ (i j : Nat) (oi oj : Oper), all[i]? = some oi → all[j]? = some oj → opCls oi.op = 5 → opCls oj.op = 5 → i = j
theorem aAny_first {i : Nat} (hS : StOK A all) (hSl : ∀ (i j : Nat) (oi oj : Oper) (t : Nat), all[i]? = some oi → all[j]? = some oj → stSlot oi = some t → stSlot oj = some t → i = j) (hi : all[i]? = some oi) (hK : Inv K) : ∀ (fuel : Nat) (listed : Array Bool) (s : AS), Closed all listed →
    (∀ j oj, all[j]? = some oj → j ≠ i → listed.getD j true = false → ¬Dep all j i → oi.apart all oj = true ∧ compatM (A.contains stMark) (opCls oi.op) (opCls oj.op) = true) →
    i ∈ Region.ready .any all listed → aOp TT all T A oi (aAny TT all T A K fuel (listed.setIfInBounds i true)) s → aAny TT all T A K (fuel + 1) listed s := by
  intro fuel
  induction fuel with
  | zero =>
    intro listed s _ _ hr H
    refine ⟨fun h => (by rw [h] at hr; cases hr), fun j hj => ?_⟩
    by_cases hji : j = i
    · subst hji; rw [hi]; exact H
    · obtain ⟨s', hs'⟩ := aOp_inh H
      have := ready_mono hj hji
      rw [hs'.1] at this
      cases this
  | succ fuel ih =>
    intro listed s hcl hfree hr H
    refine ⟨fun h => (by rw [h] at hr; cases hr), fun j hj => ?_⟩
    by_cases hji : j = i
    · subst hji; rw [hi]; exact H
    · obtain ⟨hjun, oj, hoj, hall⟩ := mem_ready.1 hj
      rw [hoj]
      have hnot : ¬Dep all j i := fun hd => by
        have h1 := hd.listed hcl fun o ho e he hb => by
          rw [hoj] at ho; cases ho
          exact hall e he hb
        rw [getD_ft (mem_ready.1 hr).1] at h1
        cases h1
      obtain ⟨hap, hcm⟩ := hfree j oj hoj hji hjun hnot
      have hKK := aAny_inv (TT := TT) (all := all) (T := T) (A := A) hK fuel ((listed.setIfInBounds i true).setIfInBounds j true)
      have H1 : aOp TT all T A oi (fun s' => aOp TT all T A oj (aAny TT all T A K fuel ((listed.setIfInBounds i true).setIfInBounds j true)) s') s := by
        refine aOp_mono (fun s' hs' => ?_) H
        have := hs'.2 j (ready_mono hj hji)
        rw [hoj] at this
        exact this
      have H2 : aOp TT all T A oj (fun s' => aOp TT all T A oi (aAny TT all T A K fuel ((listed.setIfInBounds i true).setIfInBounds j true)) s') s := by
        by_cases hcm0 : compat (opCls oi.op) (opCls oj.op) = true
        rotate_left
        · simp only [compatM, hcm0, Bool.false_or, Bool.and_eq_true, Bool.or_eq_true] at hcm
          obtain ⟨hm, (⟨c5, c1 | c3⟩ | ⟨c5, c1⟩)⟩ := hcm <;> replace c5 := Nat.eq_of_beq_eq_true c5 <;> first | replace c1 := Nat.eq_of_beq_eq_true c1 | replace c3 := Nat.eq_of_beq_eq_true c3
          · exact swap15 hm hap c1 c5 hKK H1
          · exact swap35 hm hap c3 c5 hKK H1
          · exact swap51 hm hap c5 c1 hKK H1
        replace hcm := hcm0
        by_cases hc3 : opCls oi.op = 3
        · refine swap2 hap hc3 ?_ hKK H1
          rw [hc3] at hcm
          simpa [compat] using hcm
        by_cases hc5 : opCls oi.op = 5
        · rw [hc5] at hcm
          simp only [compat, Bool.or_eq_true, beq_iff_eq] at hcm
          rcases hcm with hcm | hcm
          · exact swap50 hap hc5 hcm hKK H1
          · have hA : strictA A = true := by
              rcases hS with h | h
              · exact h
              · exact absurd (h j i oj oi hoj hi hcm hc5) hji
            exact swap5 hA (fun t ht ht' => hji (hSl j i oj oi t hoj hi ht' ht)) hap hc5 hcm hKK H1
        · have hc2 : opCls oi.op ≤ 2 := by
            rcases Nat.lt_or_ge (opCls oi.op) 3 with h | h
            · omega
            · have : compat (opCls oi.op) (opCls oj.op) = false := by
                unfold compat
                split <;> first | omega | rfl
              rw [this] at hcm; cases hcm
          obtain ⟨v, e, q1, q2⟩ := det_of_aOp hc2 H1
          exact aOp_mono (fun s' hs' => aOp_of_det hs'.1 hs'.2) (swap1 hap hcm hKK q1 q2)
      have hfree' : ∀ k ok, all[k]? = some ok → k ≠ i → (listed.setIfInBounds j true).getD k true = false →
          ¬Dep all k i → oi.apart all ok = true ∧ compatM (A.contains stMark) (opCls oi.op) (opCls ok.op) = true := fun k ok hk hki hun hno => by
        refine hfree k ok hk hki ?_ hno
        by_cases hjk : j = k
        · subst hjk; exact hjun
        · rw [getD_set_ne true hjk] at hun; exact hun
      refine aOp_mono (fun s' h3 => ih (listed.setIfInBounds j true) s' (hcl.set hj) hfree' (ready_mono hr (Ne.symm hji)) ?_) H2
      rw [Array.setIfInBounds_comm _ _ hji]
      exact h3

/-! ### The lexical order -/

variable (TT all T A) in
def lexW (K : AS → Prop) : List Oper → AS → Prop
  | [], s => K s
  | o :: l, s => aOp TT all T A o (lexW K l) s

/-- j waits for i, by edges of chains. -/
def depB (all : Array Oper) : Nat → Nat → Nat → Bool
  | 0, _, _ => false
  | fuel + 1, j, i => match all[j]? with
    | none => false
    | some o => o.after.toList.any fun e => Region.binds .any e && (match e.ground with | .chain => true | _ => false) && (Nat.beq e.on i || depB all fuel e.on i)

theorem depB_dep {i : Nat} : ∀ (fuel j : Nat), depB all fuel j i = true → Dep all j i
  | 0, _, h => by simp [depB] at h
  | fuel + 1, j, h => by
    unfold depB at h
    split at h
    · cases h
    · rename_i o ho
      rw [List.any_eq_true] at h
      obtain ⟨e, he, hx⟩ := h
      simp only [Bool.and_eq_true, Bool.or_eq_true] at hx
      obtain ⟨⟨hb, _⟩, hx⟩ := hx
      rcases hx with hx | hx
      · exact .one ho (by simpa using he) hb (Nat.eq_of_beq_eq_true hx)
      · exact .more ho (by simpa using he) hb (depB_dep fuel _ hx)

def lexP (m : Bool) (all : Array Oper) (k : Nat) (o : Oper) : Nat → List Oper → Bool
  | _, [] => true
  | j, oj :: rest => ((oj.after.toList.any fun e => Region.binds .any e && Nat.beq e.on k) || (compatM m (opCls o.op) (opCls oj.op) && o.apart all oj) || depB all 12 j k) && lexP m all k o (j + 1) rest

/-- The lexical order serves: as the kernel reckons it fast. -/
def lexG (m : Bool) (all : Array Oper) : Nat → List Oper → Bool
  | _, [] => true
  | k, o :: rest => (o.after.toList.all fun e => !Region.binds .any e || Nat.blt e.on k) && lexP m all k o (k + 1) rest && lexG m all (k + 1) rest

theorem lexP_get {m : Bool} {k : Nat} : ∀ (l : List Oper) (j n : Nat), lexP m all k oi j l = true → l[n]? = some oj → ((oj.after.toList.any fun e => Region.binds .any e && Nat.beq e.on k) || (compatM m (opCls oi.op) (opCls oj.op) && oi.apart all oj) || depB all 12 (j + n) k) = true
  | [], j, n, _, h => by simp at h
  | o :: l, j, 0, hB, h => by
    simp only [List.getElem?_cons_zero, Option.some.injEq] at h
    subst h
    simp only [lexP, Bool.and_eq_true] at hB
    exact hB.1
  | o :: l, j, n + 1, hB, h => by
    simp only [lexP, Bool.and_eq_true] at hB
    have := lexP_get l (j + 1) n hB.2 (by simpa using h)
    rw [show j + 1 + n = j + (n + 1) by omega] at this
    exact this

theorem aAny_lexG (hS : StOK A all) (hSl : ∀ (i j : Nat) (oi oj : Oper) (t : Nat), all[i]? = some oi → all[j]? = some oj → stSlot oi = some t → stSlot oj = some t → i = j) (hK : Inv K) : ∀ (l : List Oper) (k : Nat) (listed : Array Bool) (s : AS), (∀ j, l[j]? = all[k + j]?) → k + l.length = all.size → listed.size = all.size → (∀ j, j < all.size → listed.getD j false = decide (j < k)) →
    (∀ j o, all[j]? = some o → j < k → ∀ e ∈ o.after, Region.binds .any e = true → listed.getD e.on false = true) →
    lexG (A.contains stMark) all k l = true → lexW TT all T A K l s → aAny TT all T A K l.length listed s
  | [], k, listed, s, hl, hsz, hls, hlt, hpre, hB, h => by
    refine ⟨?_, h⟩
    rw [List.eq_nil_iff_forall_not_mem]
    intro j hj
    obtain ⟨h0, o, ho, _⟩ := mem_ready.1 hj
    have hj' := (Array.getElem?_eq_some_iff.1 ho).1
    have h1 := hlt j hj'
    simp only [List.length_nil, Nat.add_zero] at hsz
    rw [decide_eq_true (by omega)] at h1
    simp [Array.getD_eq_getD_getElem?, hls, hj'] at h0 h1
    rw [h0] at h1; cases h1
  | o :: l, k, listed, s, hl, hsz, hls, hlt, hpre, hB, h => by
    have h0 : all[k]? = some o := by simpa using (hl 0).symm
    have hk := (Array.getElem?_eq_some_iff.1 h0).1
    simp only [lexG, Bool.and_eq_true] at hB
    obtain ⟨⟨hr, hf⟩, hB'⟩ := hB
    have hget : ∀ j, j < all.size → listed.getD j true = decide (j < k) := fun j hj => by
      have := hlt j hj
      simpa [Array.getD_eq_getD_getElem?, hls, hj] using this
    have hready : k ∈ Region.ready .any all listed := by
      rw [mem_ready]
      refine ⟨by rw [hget k hk]; simp, o, h0, fun e he hb => ?_⟩
      rw [List.all_eq_true] at hr
      have := hr e (by simpa using he)
      rw [hb] at this
      simp only [Bool.not_true, Bool.false_or, Nat.blt_eq] at this
      rw [hlt _ (by omega)]
      simpa using this
    have hcl : Closed all listed := by
      intro j o' ho' hj e he hb
      have hj' := (Array.getElem?_eq_some_iff.1 ho').1
      rw [hlt j hj'] at hj
      exact hpre j o' ho' (of_decide_eq_true hj) e he hb
    refine aAny_first hS hSl h0 hK l.length listed s hcl (fun j oj hoj hne hun hno => ?_) hready ?_
    · have hj := (Array.getElem?_eq_some_iff.1 hoj).1
      rw [hget j hj] at hun
      simp only [decide_eq_false_iff_not, Nat.not_lt] at hun
      have hg : l[j - k - 1]? = some oj := by
        have := hl (j - k)
        rw [show k + (j - k) = j by omega, hoj] at this
        rw [show j - k = (j - k - 1) + 1 by omega, List.getElem?_cons_succ] at this
        exact this
      have h1 := lexP_get l (k + 1) (j - k - 1) hf hg
      rw [show k + 1 + (j - k - 1) = j by omega] at h1
      simp only [Bool.or_eq_true, List.any_eq_true, Bool.and_eq_true] at h1
      rcases h1 with (⟨e, he, hb, hbe⟩ | ⟨h1, h2⟩) | h1
      · exact absurd (Dep.one hoj (by simpa using he) hb (Nat.eq_of_beq_eq_true hbe)) hno
      · exact ⟨h2, h1⟩
      · exact absurd (depB_dep _ _ h1) hno
    · refine aOp_mono (fun s' hs' => ?_) h
      refine aAny_lexG hS hSl hK l (k + 1) _ s' (fun j => by have := hl (j + 1); simpa [Nat.add_assoc, Nat.add_comm 1 j] using this) (by simp only [List.length_cons] at hsz; omega) (by simpa using hls) (fun j hj => ?_) (fun j o' ho' hj e he hb => ?_) hB' hs'
      rotate_left
      · refine getD_set_true ?_
        by_cases hjk : j < k
        · exact hpre j o' ho' hjk e he hb
        · have : j = k := by omega
          subst this
          rw [h0] at ho'; cases ho'
          obtain ⟨_, o'', ho'', hall⟩ := mem_ready.1 hready
          rw [h0] at ho''; cases ho''
          exact hall e he hb
      by_cases hjk : k = j
      · subst hjk
        simp [Array.getD_eq_getD_getElem?, hls, hk]
      · have h2 : (listed.setIfInBounds k true).getD j false = listed.getD j false := by
          simp [Array.getD_eq_getD_getElem?, Array.getElem?_setIfInBounds_ne hjk]
        rw [h2, hlt j hj]
        simp only [decide_eq_decide]; omega

end
end Go.AL

namespace Go.AL
open Go
set_option linter.unusedSectionVars false
variable [Inhabited Glob]
set_option linter.unusedSimpArgs false
set_option linter.unusedVariables false

/-! ### The walk over a region that draws its order -/

section
variable {P : Program} {TT : Tab P} {E : Ent} {all : Array Oper} {T A : List Nat} {o : Oper} {s : AS} {K : AS → Prop}

theorem Sim.eqv {s s' : AS} {a : Act} {w : World} (h : Eqv s s') (hs : Sim E s a w) : Sim E s' a w := by
  obtain ⟨h1, h2, h3, h4⟩ := h
  obtain ⟨⟨I, τ, ρ, k1, k2⟩, h5, h6⟩ := hs
  exact ⟨⟨I, τ, ρ, by rw [← h1, ← h2, ← h3]; exact k1, fun t => by rw [← h4, ← h1]; exact k2 t⟩, h5, h6⟩

theorem aOp_sound {a : Act} {w : World} {N : Act → World → Prop} {Q : Exit → Act → World → Prop} (hd : (o.dst.all fun d => decide (d < E.n)) = true) (hs : Sim E s a w) (h : aOp TT all T A o K s)
    (hN : ∀ s' a' w', K s' → Sim E s' a' w' → N a' w') :
    if Region.wanted o (yielded all a.tmps) then o.wp P a w N Q ∨ (o.asks P a w ∧ LetsOut Q) else N (a.put o.dst undef) w := by
  obtain ⟨dst, op, ty, pos, after, guard⟩ := o
  have hdst : ∀ d, dst = some d → d < E.n := fun d hdd => by
    simp only [hdd, Option.all_some, decide_eq_true_eq] at hd
    exact hd
  have hw : guardV all s ⟨dst, op, ty, pos, after, guard⟩ = some (Region.wanted ⟨dst, op, ty, pos, after, guard⟩ (yielded all a.tmps)) := by
    have hsome : ∃ b, guardV all s ⟨dst, op, ty, pos, after, guard⟩ = some b := by
      rcases h with ⟨h, _⟩ | ⟨h, _⟩ <;> exact ⟨_, h⟩
    cases guard with
    | none => rfl
    | some jw =>
      obtain ⟨j, want⟩ := jw
      obtain ⟨b0, hb0⟩ := hsome
      simp only [guardV] at hb0 ⊢
      split at hb0
      · rename_i t ht
        split at hb0
        · rename_i b hb
          obtain ⟨I, τ, ρ, h1, h2⟩ := hs.ex
          have hv := h2 t
          rw [hb] at hv
          have hbv := rep_bool hv
          have hy : yielded all a.tmps j = some b := by
            have hbv' : a.tmps[t]? = some (.bool b) := by
              simp only [Array.getD_eq_getD_getElem?] at hbv
              cases hq : a.tmps[t]? with
              | none => rw [hq] at hbv; simp [undef] at hbv
              | some x => rw [hq] at hbv; simpa using hbv
            simp [yielded, ht, hbv']
          simp [Region.wanted, hy]
        · rename_i hb
          obtain ⟨I, τ, ρ, h1, h2⟩ := hs.ex
          have hv := h2 t
          rw [hb] at hv
          have hbv := rep_undef hv
          have hy : yielded all a.tmps j = none := by
            simp only [Array.getD_eq_getD_getElem?] at hbv
            cases hq : a.tmps[t]? with
            | none => simp [yielded, ht, hq]
            | some x => rw [hq] at hbv; simp at hbv; subst hbv; simp [yielded, ht, hq, undef]
          simp [Region.wanted, hy]
        · cases hb0
      · cases hb0
  rcases h with ⟨h1, h2⟩ | ⟨h1, h2, h3⟩
  · rw [hw] at h1
    simp only [Option.some.injEq] at h1
    rw [if_neg (by rw [h1]; simp)]
    refine hN _ _ w h2 ?_
    exact (undef_res hs).sim dst hs.sz hs.df hdst
  · rw [hw] at h1
    simp only [Option.some.injEq] at h1
    rw [if_pos h1]
    have hstep := step_ok (P := P) (E := E) (s := s) (ty := ty) TT op
    dsimp only at h3
    cases hst : stp TT s op with
    | ok pre fact v s' =>
      rw [hst] at h3 hstep
      refine .inl ((hstep h3.1).wp hs hdst fun v0 s0 ⟨q1, q2, q3⟩ _ a' w' hs' => ?_)
      subst q2; subst q3
      exact hN _ a' w' h3.2 hs'
    | call f args =>
      rw [hst] at h3 hstep
      simp only [aStp] at h3
      refine .inl ((hstep _ (CallD.callV h3)).wp hs hdst fun v0 s0 hk _ a' w' hs' => ?_)
      obtain ⟨o', t', m', rfl, hk⟩ := hk
      exact hN _ a' w' hk hs'
    | stop => rw [hst] at h3; exact h3.elim

theorem aAny_sound {Q : Exit → Act → World → Prop} (hq : ∀ s' a' w', K s' → Sim E s' a' w' → Q .normal a' w') (hd : (all.toList.all fun o => o.dst.all fun d => decide (d < E.n)) = true) :
    ∀ (fuel : Nat) (listed : Array Bool) (s : AS) (a : Act) (w : World), Sim E s a w → aAny TT all T A K fuel listed s → wpAny P .any all Q fuel listed a w
  | 0, listed, s, a, w, hs, h => ⟨h.1, hq _ _ _ h.2 hs⟩
  | fuel + 1, listed, s, a, w, hs, h => ⟨fun h0 => hq _ _ _ (h.1 h0) hs, fun i hi => by
    have hk := h.2 i hi
    unfold wpOp
    cases ho : all[i]? with
    | none => rw [ho] at hk; exact aAny_sound hq hd fuel _ s a w hs hk
    | some o =>
      rw [ho] at hk
      dsimp only at hk ⊢
      refine aOp_sound (Q := Q) ?_ hs hk fun s' a' w' hs' hsim => aAny_sound hq hd fuel _ s' a' w' hsim hs'
      rw [List.all_eq_true] at hd
      exact hd o (by rw [Array.mem_toList_iff]; exact Array.mem_of_getElem? ho)⟩

end

section
variable {P : Program} (TT : Tab P) (T A : List Nat)

def rvd (ds : List (Option Nat)) : List Oper → AS → (AS → Prop) → Prop
  | [], s, K => K s
  | o :: rest, s, K =>
    match o.guard with
    | none => cleanB T A s o.op = true ∧ match stp TT s o.op with
      | .ok pre _ v s' => pre ∧ rvd ds rest (s'.put o.dst v) K
      | .call g args => CallD P T s.objs s.toks s.nt g args fun v ob t m => rvd ds rest (({ s with objs := ob, toks := t, nt := m } : AS).put o.dst v) K
      | .stop => False
    | some (j, want) => match ds[j]? with
      | some (some t) => match getE s.env t with
        | .d (.bool b) => (b = want → cleanB T A s o.op = true ∧ match stp TT s o.op with
            | .ok pre _ v s' => pre ∧ rvd ds rest (s'.put o.dst v) K
            | .call g args => CallD P T s.objs s.toks s.nt g args fun v ob t m => rvd ds rest (({ s with objs := ob, toks := t, nt := m } : AS).put o.dst v) K
            | .stop => False) ∧ (b = !want → rvd ds rest (s.put o.dst (.tup [])) K)
        | .tup [] => rvd ds rest (s.put o.dst (.tup [])) K
        | _ => False
      | _ => False

def stepD (ds : List (Option Nat)) (r : SR) (dst : Option Nat) (rest : List Oper) (s : AS) (K : AS → Prop) : Prop :=
  match r with
  | .ok pre _ v s' => pre ∧ rvd TT T A ds rest (s'.put dst v) K
  | .call g args => CallD P T s.objs s.toks s.nt g args fun v ob t m => rvd TT T A ds rest (({ s with objs := ob, toks := t, nt := m } : AS).put dst v) K
  | .stop => False

def guardDK (ds : List (Option Nat)) (v : AV) (want : Bool) (op : Op) (dst : Option Nat) (rest : List Oper) (s : AS) (K : AS → Prop) : Prop :=
  match v with
  | .d (.bool b) => (b = want → cleanB T A s op = true ∧ stepD TT T A ds (stp TT s op) dst rest s K) ∧ (b = !want → rvd TT T A ds rest (s.put dst (.tup [])) K)
  | .tup [] => rvd TT T A ds rest (s.put dst (.tup [])) K
  | _ => False

def guardDG (ds : List (Option Nat)) (x : Option (Option Nat)) (want : Bool) (op : Op) (dst : Option Nat) (rest : List Oper) (s : AS) (K : AS → Prop) : Prop :=
  match x with
  | some (some t) => guardDK TT T A ds (getE s.env t) want op dst rest s K
  | _ => False

/-- A call, with what is left of the region behind it. -/
def callKD (ds : List (Option Nat)) (g : FuncId) (args : List AV) (dst : Option Nat) (rest : List Oper) (s : AS) (K : AS → Prop) : Prop :=
  CallD P T s.objs s.toks s.nt g args fun v ob t m => rvd TT T A ds rest (({ s with objs := ob, toks := t, nt := m } : AS).put dst v) K

variable {ds : List (Option Nat)} {s : AS} {K : AS → Prop} {op : Op} {dst : Option Nat} {ty : TypeId} {pos : String} {after : Array Edge} {rest : List Oper}

theorem rvd_nil : rvd TT T A ds [] s K = K s := id rfl
theorem rvd_plain : rvd TT T A ds (⟨dst, op, ty, pos, after, none⟩ :: rest) s K = (cleanB T A s op = true ∧ stepD TT T A ds (stp TT s op) dst rest s K) := id rfl
theorem rvd_guard {j : Nat} {want : Bool} : rvd TT T A ds (⟨dst, op, ty, pos, after, some (j, want)⟩ :: rest) s K = guardDG TT T A ds (ds[j]?) want op dst rest s K := by
  simp only [rvd, guardDG]
  cases h : ds[j]? with
  | none => rfl
  | some x => cases x <;> rfl
theorem guardDG_some {t : Nat} {want : Bool} : guardDG TT T A ds (some (some t)) want op dst rest s K = guardDK TT T A ds (getE s.env t) want op dst rest s K := id rfl
theorem stepD_ok {pre fact : Prop} {v : AV} {s' : AS} : stepD TT T A ds (.ok pre fact v s') dst rest s K = (pre ∧ rvd TT T A ds rest (s'.put dst v) K) := id rfl
theorem stepD_call {g : FuncId} {args : List AV} : stepD TT T A ds (.call g args) dst rest s K = callKD TT T A ds g args dst rest s K := id rfl
theorem stepD_stop : stepD TT T A ds .stop dst rest s K = False := id rfl
theorem guardDK_tt : guardDK TT T A ds (.d (.bool true)) true op dst rest s K = (cleanB T A s op = true ∧ stepD TT T A ds (stp TT s op) dst rest s K) := by simp [guardDK]
theorem guardDK_tf : guardDK TT T A ds (.d (.bool true)) false op dst rest s K = rvd TT T A ds rest (s.put dst (.tup [])) K := by simp [guardDK]
theorem guardDK_ft : guardDK TT T A ds (.d (.bool false)) true op dst rest s K = rvd TT T A ds rest (s.put dst (.tup [])) K := by simp [guardDK]
theorem guardDK_ff : guardDK TT T A ds (.d (.bool false)) false op dst rest s K = (cleanB T A s op = true ∧ stepD TT T A ds (stp TT s op) dst rest s K) := by simp [guardDK]
theorem guardDK_un {want : Bool} : guardDK TT T A ds (.tup []) want op dst rest s K = rvd TT T A ds rest (s.put dst (.tup [])) K := id rfl
theorem guardD_split_t {b : Bool} (h1 : b = true → cleanB T A s op = true ∧ stepD TT T A ds (stp TT s op) dst rest s K) (h2 : b = false → rvd TT T A ds rest (s.put dst (.tup [])) K) : guardDK TT T A ds (.d (.bool b)) true op dst rest s K := ⟨h1, h2⟩
theorem guardD_split_f {b : Bool} (h1 : b = false → cleanB T A s op = true ∧ stepD TT T A ds (stp TT s op) dst rest s K) (h2 : b = true → rvd TT T A ds rest (s.put dst (.tup [])) K) : guardDK TT T A ds (.d (.bool b)) false op dst rest s K := ⟨h1, h2⟩

theorem rvd_lex {all : Array Oper} {K' : AS → Prop} (hk : ∀ s, K s → K' s) : ∀ (l : List Oper) (s : AS), rvd TT T A (all.toList.map (·.dst)) l s K → lexW TT all T A K' l s
  | [], s, h => hk s h
  | o :: l, s, h => by
    obtain ⟨dst, op, ty, pos, after, guard⟩ := o
    have go : ∀ (r : SR), stepD TT T A (all.toList.map (·.dst)) r dst l s K → aStp (P := P) T r dst s (lexW TT all T A K' l) := by
      intro r hr
      cases r with
      | ok p f v s' => exact ⟨hr.1, rvd_lex hk l _ hr.2⟩
      | call g args =>
        simp only [stepD, aStp] at hr ⊢
        exact CallD.mono hr fun v ob t m _ _ hx => rvd_lex hk l _ hx
      | stop => exact hr
    cases guard with
    | none =>
      rw [rvd_plain] at h
      exact .inr ⟨rfl, h.1, go _ h.2⟩
    | some jw =>
      obtain ⟨j, want⟩ := jw
      rw [rvd_guard] at h
      simp only [guardDG] at h
      split at h
      · rename_i t ht
        simp only [guardDK] at h
        split at h
        · rename_i b hb
          have hgv : guardV all s ⟨dst, op, ty, pos, after, some (j, want)⟩ = some (b == want) := by
            have ht' : (all[j]?).bind (·.dst) = some t := by
              simp only [List.getElem?_map, Array.getElem?_toList, Option.map_eq_some_iff] at ht
              obtain ⟨o, ho, hod⟩ := ht
              rw [ho]; exact hod
            simp [guardV, ht', hb]
          by_cases hw : b = want
          · obtain ⟨k1, k2⟩ := h.1 hw
            exact .inr ⟨by rw [hgv, hw]; simp, k1, go _ k2⟩
          · refine .inl ⟨by rw [hgv]; simp [hw], rvd_lex hk l _ (h.2 (by cases b <;> cases want <;> simp_all))⟩
        · rename_i hb
          have ht' : (all[j]?).bind (·.dst) = some t := by
            simp only [List.getElem?_map, Array.getElem?_toList, Option.map_eq_some_iff] at ht
            obtain ⟨o, ho, hod⟩ := ht
            rw [ho]; exact hod
          exact .inl ⟨by simp [guardV, ht', hb], rvd_lex hk l _ h⟩
        · exact h.elim
      · exact h.elim

end

section
variable {P : Program} (TT : Tab P) {E : Ent} {Q : Exit → AS → Prop} {s : AS}

def stDist : List Oper → Bool
  | [] => true
  | o :: l => (match stSlot o with
    | none => true
    | some t => l.all fun o' => match stSlot o' with
      | none => true
      | some t' => !Nat.beq t t') && stDist l
def stFew : List Oper → Bool
  | [] => true
  | o :: l => if Nat.beq (opCls o.op) 5 then l.all fun o' => !Nat.beq (opCls o'.op) 5 else stFew l
/-- The stores of a region are told apart, if there are more than one. -/
def stCheck (A : List Nat) (l : List Oper) : Bool := stFew l || (stDist l && strictA A)

theorem stDist_ok : ∀ (l : List Oper), stDist l = true → ∀ (i j : Nat) (oi oj : Oper) (t : Nat), l[i]? = some oi → l[j]? = some oj → stSlot oi = some t → stSlot oj = some t → i = j
  | [], _, i, _, _, _, _, h, _, _, _ => by simp at h
  | o :: l, h, i, j, oi, oj, t, hi, hj, ti, tj => by
    simp only [stDist, Bool.and_eq_true] at h
    have hd : ∀ (k : Nat) (ok : Oper), l[k]? = some ok → stSlot o = some t → stSlot ok ≠ some t := by
      intro k ok hk ho hok
      have h1 := h.1
      rw [ho] at h1
      have := List.all_eq_true.1 h1 ok (List.mem_of_getElem? hk)
      rw [hok] at this
      simp at this
    cases i with
    | zero => cases j with
      | zero => rfl
      | succ j => simp at hi hj; subst hi; exact absurd tj (hd j oj hj ti)
    | succ i => cases j with
      | zero => simp at hi hj; subst hj; exact absurd ti (hd i oi hi tj)
      | succ j => rw [stDist_ok l h.2 i j oi oj t (by simpa using hi) (by simpa using hj) ti tj]
theorem stFew_ok : ∀ (l : List Oper), stFew l = true → ∀ (i j : Nat) (oi oj : Oper), l[i]? = some oi → l[j]? = some oj → opCls oi.op = 5 → opCls oj.op = 5 → i = j
  | [], _, i, _, _, _, h, _, _, _ => by simp at h
  | o :: l, h, i, j, oi, oj, hi, hj, ti, tj => by
    simp only [stFew] at h
    have hd : opCls o.op = 5 → ∀ (k : Nat) (ok : Oper), l[k]? = some ok → opCls ok.op ≠ 5 := by
      intro ho k ok hk hok
      rw [if_pos (by rw [ho]; rfl)] at h
      have := List.all_eq_true.1 h ok (List.mem_of_getElem? hk)
      rw [hok] at this
      simp at this
    have hl : ∀ (i j : Nat) (oi oj : Oper), l[i]? = some oi → l[j]? = some oj → opCls oi.op = 5 → opCls oj.op = 5 → i = j := by
      intro i j oi oj hi hj ti tj
      by_cases ho : opCls o.op = 5
      · exact absurd ti (hd ho i oi hi)
      · rw [if_neg (by simpa using ho)] at h
        exact stFew_ok l h i j oi oj hi hj ti tj
    cases i with
    | zero => cases j with
      | zero => rfl
      | succ j => simp at hi hj; subst hi; exact absurd tj (hd ti j oj hj)
    | succ i => cases j with
      | zero => simp at hi hj; subst hj; exact absurd ti (hd tj i oi hi)
      | succ j => rw [hl i j oi oj (by simpa using hi) (by simpa using hj) ti tj]
theorem slot_cls {o : Oper} {t : Nat} (h : stSlot o = some t) : opCls o.op = 5 := by
  unfold stSlot at h
  split at h
  · rename_i ho; rw [ho]; rfl
  · cases h
theorem stCheck_ok {A : List Nat} {l : List Oper} (h : stCheck A l = true) : StOK A l.toArray ∧ ∀ (i j : Nat) (oi oj : Oper) (t : Nat), l.toArray[i]? = some oi → l.toArray[j]? = some oj → stSlot oi = some t → stSlot oj = some t → i = j := by
  simp only [stCheck, Bool.or_eq_true, Bool.and_eq_true] at h
  rcases h with h | ⟨h1, h2⟩
  · exact ⟨.inr fun i j oi oj hi hj => stFew_ok l h i j oi oj (by simpa using hi) (by simpa using hj), fun i j oi oj t hi hj ti tj => stFew_ok l h i j oi oj (by simpa using hi) (by simpa using hj) (slot_cls ti) (slot_cls tj)⟩
  · exact ⟨.inl h2, fun i j oi oj t hi hj => stDist_ok l h1 i j oi oj t (by simpa using hi) (by simpa using hj)⟩

theorem awp_regionD (T A : List Nat) (hm : P.follows .mixedOrders = true) {id : Nat} {l : List Oper} (hB : lexG (A.contains stMark) l.toArray 0 l = true) (hS : stCheck A l = true)
    (h : ∀ K : AS → Prop, (∀ s', Q .normal s' → K s') → rvd TT T A (l.map (·.dst)) l s K) : AWp P E (.region id l.toArray true) Q s := fun hok a w hs => by
  simp only [codeOK] at hok
  refine wp_region_any hm ?_
  have h1 := h (Q .normal) (fun _ h => h)
  have hinv : Inv (fun s' => ∃ s0, Eqv s0 s' ∧ Q .normal s0) := fun s s' he ⟨s0, h0, hq⟩ => ⟨s0, h0.trans he, hq⟩
  have h2 := rvd_lex (TT := TT) (T := T) (A := A) (all := l.toArray) (K := Q .normal) (K' := fun s' => ∃ s0, Eqv s0 s' ∧ Q .normal s0) (fun s hs => ⟨s, Eqv.refl s, hs⟩) l s (by simpa using h1)
  have h3 := aAny_lexG (stCheck_ok hS).1 (stCheck_ok hS).2 hinv l 0 (Array.replicate l.length false) s (by simp) (by simp) (by simp) (fun j hj => by simp at hj; simp [Array.getD_eq_getD_getElem?, hj]) (fun j o _ hj => by omega) hB h2
  have hs' : Sim E s a { w with drawn := w.drawn + 1 } := by
    obtain ⟨⟨I, τ, ρ, k1, k2⟩, h5, h6⟩ := hs
    exact ⟨⟨I, τ, ρ, k1.drew, k2⟩, h5, h6⟩
  have h4 := aAny_sound (E := E) (Q := fun e a' w' => ∃ s', Q e s' ∧ Sim E s' a' w') (fun s' a' w' ⟨s0, he, hq⟩ hsim => ⟨s0, hq, hsim.eqv he.symm⟩) (by simpa using hok) l.length _ s a _ hs' h3
  simpa using h4

theorem awp_seqrD (T A : List Nat) (hm : P.follows .mixedOrders = true) {id : Nat} {l : List Oper} {y : Code} (hB : lexG (A.contains stMark) l.toArray 0 l = true) (hS : stCheck A l = true)
    (h : ∀ K : AS → Prop, (∀ s', AWp P E y Q s' → K s') → rvd TT T A (l.map (·.dst)) l s K) : AWp P E (.seq (.region id l.toArray true) y) Q s :=
  awp_seq (awp_regionD TT T A hm hB hS fun K hK => h K fun s' h' => hK s' h')

end

section
variable {P : Program} (TT : Tab P) (T A : List Nat) {ds : List (Option Nat)} {s : AS} {K : AS → Prop} {dst : Option Nat} {rest : List Oper} {g : FuncId} {args : List AV}

theorem callKD_ac {lent : List AO} {args' : List AV} {R : Nat → AV → List AO → List Nat → Nat → Prop} (is : List Nat) (hac : AC P g args' lent R)
    (ha : ∀ len, args'.map (AV.rn is len) = args) (hsc : (args'.all fun v => v.scopedT is.length) = true) (hlent : lent.map some = is.map fun i => s.objs[i]?) (hnd : is.Nodup) (hT : ∀ i ∈ is, i ∈ T)
    (hne : ∀ n, ∃ r os ts m, R n r os ts m)
    (hK : ∀ r os ts m, R s.nt r os ts m → os.length = is.length ∧ r.plain = true ∧ rvd TT T A ds rest (({ s with objs := putObjs s.objs is os, toks := ts ++ s.toks, nt := m } : AS).put dst r) K) : callKD TT T A ds g args dst rest s K :=
  ⟨lent, args', is, R, hac, ha, hsc, hlent, hnd, hT, hne, fun r os ts m hr => by
    obtain ⟨k1, k2, k3⟩ := hK r os ts m hr
    exact ⟨k1, fun len len' => by rw [rn_plain k2, rn_plain k2], by rw [rn_plain k2]; exact k3⟩⟩

theorem callKD_pureR {R : AV → Prop} (hac : GivesR P g args R) (hsc : (args.all fun v => v.scopedT 0) = true) (hne : ∃ r, R r) (hpl : ∀ r, R r → r.plain = true)
    (hK : ∀ r m, R r → s.nt ≤ m → rvd TT T A ds rest (({ s with nt := m } : AS).put dst r) K) : callKD TT T A ds g args dst rest s K := by
  have hac' : AC P g args [] fun n v o t m => (R v ∧ o = [] ∧ t = []) ∧ n ≤ m :=
    ⟨hac.call, fun E vs h1 h2 h3 => (hac.run E vs h1 h2 h3).mono fun _ _ ⟨x, he, r, o, t, m, I, τ, ρ, hR, hS, hA⟩ => ⟨x, he, r, o, t, m, I, τ, ρ, ⟨hR, hS.ntle⟩, hS, hA⟩⟩
  refine callKD_ac TT T A [] hac' (fun len => ?_) hsc rfl List.nodup_nil (by simp) (fun n => ?_) ?_
  · conv => rhs; rw [← List.map_id args]
    refine List.map_congr_left fun v hv => rn_nil ?_
    rw [List.all_eq_true] at hsc
    exact hsc v hv
  · obtain ⟨r, hr⟩ := hne
    exact ⟨r, [], [], n, ⟨hr, rfl, rfl⟩, Nat.le_refl _⟩
  · rintro r os ts m ⟨⟨hr, rfl, rfl⟩, hm⟩
    refine ⟨rfl, hpl r hr, ?_⟩
    have := hK r m hr hm
    simpa [putObjs] using this

theorem callKD_pure {r : AV} (hac : Gives P g args r) (hsc : (args.all fun v => v.scopedT 0) = true) (hr : r.plain = true)
    (hK : ∀ m, s.nt ≤ m → rvd TT T A ds rest (({ s with nt := m } : AS).put dst r) K) : callKD TT T A ds g args dst rest s K :=
  callKD_pureR TT T A (R := fun v => v = r) hac hsc ⟨r, rfl⟩ (fun _ h => h ▸ hr) fun _ m h hm => h ▸ hK m hm

end

attribute [go_sem] rvd_nil rvd_plain rvd_guard guardDG_some stepD_ok stepD_call stepD_stop guardDK_un guardDK_tt guardDK_tf guardDK_ft guardDK_ff cleanB okV
attribute [go_sem] List.contains_cons List.contains_nil Bool.or_false Bool.false_or Bool.not_true Bool.not_false Bool.and_self

end Go.AL

namespace Go.AL
open Go
set_option linter.unusedSectionVars false
variable [Inhabited Glob]
set_option linter.unusedSimpArgs false
set_option linter.unusedVariables false

def AV.erR : AV → AV
  | .tup vs => .tup (vs.map AV.er)
  | v => v.er

theorem RepA.erR {I : IH} {τ : TH} {ρ : Nat → Nat} {n : Nat} {v : AV} {x : Value} (h : RepA I τ ρ n v x) : RepA I τ ρ n v.erR x := by
  cases h with
  | tup vs ws hl h =>
    refine .tup _ ws (by simpa using hl) fun i v w hv hw => ?_
    rw [List.getElem?_map, Option.map_eq_some_iff] at hv
    obtain ⟨u, hu, rfl⟩ := hv
    exact (h i u w hu hw).er
  | d c v h => exact .d _ _ h.er
  | agg cs vs h => exact .agg _ _ h.er
  | ptr o off h => exact .ptr o off h
  | elem cs vs adr hs h hI => exact .elem cs vs adr hs h hI
  | arr o m sz h hn => exact .arr o m sz h hn
  | map o h => exact .map o h
  | fn f caps h => exact .fn f caps h
  | nilI => exact .nilI
  | errI t v => exact .errI t v
  | nofn => exact .nofn
  | unk v => exact .unk _

/-- What a function hands back, without the knowledge of who may append. -/
theorem AC.erR {P : Program} {g : FuncId} {args : List AV} {lent : List AO} {R : Nat → AV → List AO → List Nat → Nat → Prop} (h : AC P g args lent fun n r o t m => R n r.erR o t m) : AC P g args lent R :=
  ⟨h.call, fun E vs h1 h2 h3 => (h.run E vs h1 h2 h3).mono fun _ _ ⟨x, he, r, o, t, m, I, τ, ρ, hR, hS, hA⟩ => ⟨x, he, r.erR, o, t, m, I, τ, ρ, hR, hS, hA.erR⟩⟩

section
variable {P : Program} (TT : Tab P) {s : AS}
/-- The end of a function that was lent variables. -/
theorem ret_lent {res : List ResultVar} {k nt0 : Nat} {vs : List AV} {R : Nat → AV → List AO → List Nat → Nat → Prop} (h : resList TT s res = some vs) (hp : (resV vs).plain = true) (hR : R nt0 (resV vs) (s.objs.take k) [] s.nt) :
    RetQ TT res k nt0 R .ret s := ret_R TT (m := k) (toks := []) h (Nat.le_refl _) (by simp) (plain_scoped hp) hR

theorem ret_lent_n {res : List ResultVar} {k nt0 : Nat} {vs : List AV} {R : Nat → AV → List AO → List Nat → Nat → Prop} (h : resList TT s res = some vs) (hp : (resV vs).plain = true) (hR : R nt0 (resV vs) (s.objs.take k) [] s.nt) :
    RetQ TT res k nt0 R .normal s := ret_Rn TT (m := k) (toks := []) h (Nat.le_refl _) (by simp) (plain_scoped hp) hR
end

/-- Numbers of bits. -/
theorem xor_small {a b : Int} (ha : 0 ≤ a ∧ a < 4611686018427387904) (hb : 0 ≤ b ∧ b < 4611686018427387904) :
    0 ≤ IntKind.i64.wrap ((BitVec.ofInt IntKind.i64.bits a ^^^ BitVec.ofInt IntKind.i64.bits b).toNat) := by
  have h1 : (BitVec.ofInt 64 a).toNat = a.toNat := by rw [BitVec.toNat_ofInt]; omega
  have h2 : (BitVec.ofInt 64 b).toNat = b.toNat := by rw [BitVec.toNat_ofInt]; omega
  have h3 : (BitVec.ofInt IntKind.i64.bits a ^^^ BitVec.ofInt IntKind.i64.bits b).toNat = a.toNat ^^^ b.toNat := by
    show (BitVec.ofInt 64 a ^^^ BitVec.ofInt 64 b).toNat = _
    rw [BitVec.toNat_xor, h1, h2]
  have h4 : a.toNat ^^^ b.toNat < 2 ^ 62 := Nat.xor_lt_two_pow (by omega) (by omega)
  rw [h3, wrap_id (by omega)]
  omega

theorem tmod_range {a n : Int} (ha : 0 ≤ a) (hn : 1 ≤ n) : 0 ≤ a.tmod n ∧ a.tmod n < n := ⟨Int.tmod_nonneg _ ha, Int.tmod_lt_of_pos _ (by omega)⟩

attribute [go_sem] AV.erR
end Go.AL

namespace Go.AL
open Go
set_option linter.unusedSectionVars false
variable [Inhabited Glob]
set_option linter.unusedSimpArgs false
set_option linter.unusedVariables false

/-! ### The drawer: a variable with bytes and a place -/
def encB (l : List Int) : List (List DV) := l.map fun n => [.int .u8 n]
def okB (l : List Int) : Prop := l.length ≤ 2000 ∧ ∀ b ∈ l, 0 ≤ b ∧ b < 256
/-- The drawer at place p. -/
def rd (l : List Int) (p : Nat) : AO := .cells [.sl 1 (encB l) .no, .int .i64 p]

theorem len_encB (l : List Int) : (encB l).length = l.length := by simp [encB]
theorem pick_encB {l : List Int} {k : Nat} (h : k < l.length) : pickL (encB l) k = [.int .u8 l[k]] := pickL_get (by simp [encB, h])
/-- A function that draws: it moves the place by c at most. -/
structure Draw (P : Program) (g : FuncId) (l : List Int) (p c : Nat) (args : List AV) (R : AV → Prop) : Prop where
  ac : AC P g (.ptr 0 0 :: args) [rd l p] fun _ v o t _ => R v ∧ (∃ p', p ≤ p' ∧ p' ≤ p + c ∧ o = [rd l p']) ∧ t = []
  pl : ∀ r, R r → r.plain = true
  ne : ∃ r, R r

section
variable {P : Program} (TT : Tab P) (E : Ent) {all : List (Option Nat)} {s : AS} {K : AS → Prop} {dst : Option Nat} {rest : List Oper} {g : FuncId} {args : List AV} {l : List Int} {p c i : Nat} {R : AV → Prop}

theorem Draw.ac' (h : Draw P g l p c args R) : AC P g (.ptr 0 0 :: args) [rd l p] fun n v o t m => (R v ∧ (∃ p', p ≤ p' ∧ p' ≤ p + c ∧ o = [rd l p']) ∧ t = []) ∧ n ≤ m :=
  ⟨h.ac.call, fun E vs h1 h2 h3 => (h.ac.run E vs h1 h2 h3).mono fun _ _ ⟨x, he, r, o, t, m, I, τ, ρ, hR, hS, hA⟩ => ⟨x, he, r, o, t, m, I, τ, ρ, ⟨hR, hS.ntle⟩, hS, hA⟩⟩

theorem draw_args (hsc : (args.all fun v => v.scopedT 0) = true) (len : Nat) : (AV.ptr 0 0 :: args).map (AV.rn [i] len) = AV.ptr i 0 :: args := by
  simp only [List.map_cons, List.cons.injEq]
  refine ⟨by simp [AV.rn, rnO], ?_⟩
  conv => rhs; rw [← List.map_id args]
  refine List.map_congr_left fun v hv => ?_
  rw [List.all_eq_true] at hsc
  have h0 := hsc v hv
  cases v with
  | ptr o off => simp [AV.scopedT] at h0
  | arr o m sz => simp [AV.scopedT] at h0
  | map o => simp [AV.scopedT] at h0
  | fn f caps =>
    simp only [AV.scopedT, List.all_eq_true] at h0
    cases caps with
    | nil => rfl
    | cons o caps => have := h0 o (by simp); simp at this
  | tup vs => simp [AV.scopedT] at h0
  | _ => rfl

theorem scopedT_mono {v : AV} {m n : Nat} (hmn : m ≤ n) (h : v.scopedT m = true) : v.scopedT n = true := by
  cases v with
  | ptr o off => simp only [AV.scopedT, decide_eq_true_eq] at h ⊢; omega
  | arr o m sz => simp only [AV.scopedT, decide_eq_true_eq] at h ⊢; omega
  | map o => simp only [AV.scopedT, decide_eq_true_eq] at h ⊢; omega
  | fn f caps =>
    simp only [AV.scopedT, List.all_eq_true, decide_eq_true_eq] at h ⊢
    intro o ho; have := h o ho; omega
  | tup vs => exact h
  | _ => rfl

theorem draw_sc (hsc : (args.all fun v => v.scopedT 0) = true) : ((AV.ptr 0 0 :: args).all fun v => v.scopedT [i].length) = true := by
  simp only [List.all_cons, Bool.and_eq_true]
  refine ⟨by simp [AV.scopedT], ?_⟩
  rw [List.all_eq_true] at hsc ⊢
  exact fun v hv => scopedT_mono (Nat.zero_le _) (hsc v hv)

theorem callK_draw (hac : Draw P g l p c args R) (hsc : (args.all fun v => v.scopedT 0) = true) (ho : s.objs[i]? = some (rd l p))
    (hK : ∀ r p' m, R r → p ≤ p' → p' ≤ p + c → s.nt ≤ m → rvc TT E all rest (({ s with objs := s.objs.set i (rd l p'), nt := m } : AS).put dst r) K) : callK TT E all g (.ptr i 0 :: args) dst rest s K := by
  refine callK_ac TT E [i] hac.ac' (draw_args hsc _) (draw_sc hsc) (by simp [ho]) (by simp) ?_
  rintro r os ts m ⟨⟨hr, ⟨p', h1, h2, rfl⟩, rfl⟩, hm⟩
  rw [rn_plain (hac.pl r hr)]
  have := hK r p' m hr h1 h2 hm
  simpa [putObjs] using this

theorem callKD_draw (T A : List Nat) (hac : Draw P g l p c args R) (hsc : (args.all fun v => v.scopedT 0) = true) (ho : s.objs[i]? = some (rd l p)) (hT : i ∈ T)
    (hK : ∀ r p' m, R r → p ≤ p' → p' ≤ p + c → s.nt ≤ m → rvd TT T A all rest (({ s with objs := s.objs.set i (rd l p'), nt := m } : AS).put dst r) K) : callKD TT T A all g (.ptr i 0 :: args) dst rest s K := by
  refine callKD_ac TT T A [i] hac.ac' (fun len => draw_args hsc len) (draw_sc hsc) (by simp [ho]) (by simp) (by simpa using hT) (fun n => ?_) ?_
  · obtain ⟨r, hr⟩ := hac.ne
    exact ⟨r, [rd l p], [], n, ⟨hr, ⟨p, Nat.le_refl _, by omega, rfl⟩, rfl⟩, Nat.le_refl _⟩
  · rintro r os ts m ⟨⟨hr, ⟨p', h1, h2, rfl⟩, rfl⟩, hm⟩
    refine ⟨rfl, hac.pl r hr, ?_⟩
    have := hK r p' m hr h1 h2 hm
    simpa [putObjs] using this

end
end Go.AL

namespace Go.AL
open Go
set_option linter.unusedSectionVars false
variable [Inhabited Glob]
set_option linter.unusedSimpArgs false
set_option linter.unusedVariables false

/-- The tokens of a slice that may be appended to. -/
def tkOf : Own → List Nat
  | .tok t => [t]
  | _ => []
def ownLt : Own → Nat → Prop
  | .no, _ => False
  | .full, _ => True
  | .tok t, n => t < n

theorem tkOf_tok (t : Nat) : tkOf (.tok t) = [t] := rfl
theorem ownOK_mem {own : Own} {n : Nat} {toks : List Nat} (h : ownLt own n) (hs : ∀ t ∈ tkOf own, t ∈ toks) : ownOK own toks := by
  cases own with
  | no => exact h
  | full => trivial
  | tok t => exact hs t (by simp [tkOf])
theorem ownLt_mono {own : Own} {n m : Nat} (h : ownLt own n) (hnm : n ≤ m) : ownLt own m := by
  cases own with
  | no => exact h
  | full => trivial
  | tok t => exact Nat.lt_of_lt_of_le h hnm
theorem ownLt_tok {n : Nat} : ownLt (.tok n) (n + 1) := Nat.lt_succ_self n
/-- Slices apart keep their tokens. -/
def apartO (o o' : Own) : Prop := ∀ t ∈ tkOf o, t ∉ tkOf o'
theorem mem_dropTok {own : Own} {toks : List Nat} {t : Nat} (h : t ∈ toks) (hn : t ∉ tkOf own) : t ∈ dropTok own toks := by
  cases own with
  | tok u => simp only [dropTok, List.mem_filter]; exact ⟨h, by simpa [tkOf] using hn⟩
  | _ => exact h
theorem apartO_new {own : Own} {n : Nat} (h : ownLt own n) : apartO own (.tok n) := by
  intro t ht
  cases own with
  | no => exact h.elim
  | full => simp [tkOf] at ht
  | tok u => simp only [tkOf, List.mem_singleton] at ht ⊢; subst ht; exact Nat.ne_of_lt h

theorem ownOK_full {toks : List Nat} : ownOK .full toks = True := rfl
theorem ownOK_no {toks : List Nat} : ownOK .no toks = False := rfl
theorem ownOK_tok {t : Nat} {toks : List Nat} : ownOK (.tok t) toks = (t ∈ toks) := rfl
theorem dropTok_full {toks : List Nat} : dropTok .full toks = toks := rfl
theorem dropTok_no {toks : List Nat} : dropTok .no toks = toks := rfl
theorem dropTok_tok {t : Nat} {toks : List Nat} : dropTok (.tok t) toks = toks.filter (· != t) := rfl
attribute [go_sem] List.getD_cons_zero List.getD_cons_succ tkOf_tok ownOK_full ownOK_no ownOK_tok dropTok_full dropTok_no dropTok_tok
end Go.AL

namespace Go.AL
open Go Go.RowKit
set_option linter.unusedSectionVars false
variable [Inhabited Glob]
set_option linter.unusedSimpArgs false
set_option linter.unusedVariables false

/-! ### From the abstract logic to a statement -/

def cellI (w : World) : IH := fun b o => w.cell? ⟨b, o, none⟩

theorem cellI_lt {w : World} {b o : Nat} {v : Value} (h : cellI w b o = some v) : b < w.heap.size := by
  unfold cellI World.cell? at h
  dsimp only at h
  cases hb : w.heap[b]? with
  | none => rw [hb] at h; cases h
  | some o => exact (Array.getElem?_eq_some_iff.1 hb).1

theorem run_pure {P : Program} {g : FuncId} {args : List AV} {R : AV → Prop} {vs : List Value} {w : World} (hG : (default : Glob).ok w fun b => b < w.heap.size) (hg : GivesR P g args R) (ha : RepAs (cellI w) (fun _ => none) (fun _ => 0) 0 args vs) :
    Calls P g vs.toArray w fun e w' => ∃ x r I τ ρ, e = .returned x ∧ R r ∧ RepA I τ ρ 0 r x ∧ Below w.heap.size w w' := by
  refine (hg.run ⟨w, cellI w, fun _ => 0, fun _ => none, 0, 0, 0, fun _ => False, fun b => b < w.heap.size, fun _ _ h => h, hG, fun b hb => ⟨hb, fun h => h, fun i hi => absurd hi (Nat.not_lt_zero i)⟩⟩ vs rfl ?_ ha).mono fun e w' ⟨x, he, r, o, t, m, I, τ, ρ, ⟨hR, ho, ht⟩, hS, hA⟩ => ?_
  · exact {
      iok := fun b o v h => h
      obj := fun i o h => by simp at h
      objI := fun i h => by simp at h
      inj := fun i j h => by simp at h
      tok := fun t h => by simp at h
      tokd := fun t h => by simp at h
      os := rfl
      tape := rfl
      output := rfl
      size := Nat.le_refl _
      blk := fun _ _ _ => rfl
      ifr := fun _ _ _ => rfl
      ifl := fun _ h => h.elim
      rho := fun _ _ => rfl
      fresh := fun i _ h => by simp at h
      tau := fun _ _ => rfl
      len := Nat.zero_le _
      ntle := Nat.le_refl _
      i0 := fun b o v h => cellI_lt h
      tn := fun _ _ => rfl }
  · subst ho; subst ht
    exact ⟨x, r, I, τ, ρ, he, hR, hA, hS.os, hS.tape, hS.output, hS.size, fun k hk => hS.blk k hk ⟨fun h => h, fun i hi => absurd hi (Nat.not_lt_zero i)⟩⟩

theorem keptBut_below {w w' : World} {may : MemPlace → Prop} (h : Below w.heap.size w w') : w.keptBut w' may := by
  refine ⟨h.os, h.output, fun i hi => ?_⟩
  rw [h.block i hi]
  cases w.heap[i]? with
  | none => rfl
  | some o => cases o with
    | cells c t fr => exact ⟨rfl, rfl, rfl, fun _ _ => rfl⟩
    | map es clock => exact .inr ⟨rfl, rfl⟩
    | _ => rfl

end Go.AL
