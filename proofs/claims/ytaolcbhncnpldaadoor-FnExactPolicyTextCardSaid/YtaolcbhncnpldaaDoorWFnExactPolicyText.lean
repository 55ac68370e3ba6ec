/- The law FnExactPolicyText as its contract tells it, lifted to the given statement: for every argument it returns true, and the arguments read as before. -/
import Derived.Test.YtaolcbhncnpldaaDoorTQP
import Derived.Test.YtaolcbhncnpldaaDoorCoreE
import Derived.Test.YtaolcbhncnpldaaDoorCards
import Derived.Test.YtaolcbhncnpldaaDoorTie
import Derived.SevenTiedAt
import Derived.LaidHandle
import Derived.Shelf.Vars
import Derived.Test.YtaolcbhncnpldaaDoorRows
import Derived.Test.YtaolcbhncnpldaaDoorJFnExactPolicyText
namespace Go.Proofs.YtaolcbhncnpldaaDoor
open Go Go.AL Go.ChangeShapes Go.WideShapes Go.ChangeAt Go.RowKit
set_option linter.unusedVariables false

theorem dc9 {ds : List DV} (h : Conf tyT 9 ds) : ∃ x : List UInt8, ds = (fun s => [.str s] : List UInt8 → List DV) x := by
  obtain ⟨n, rfl⟩ := conf_str h rfl
  exact ⟨n, rfl⟩
theorem dc4 {ds : List DV} (h : Conf tyT 4 ds) : ∃ x : Bool, ds = (fun b => [.bool b] : Bool → List DV) x := by
  obtain ⟨n, rfl⟩ := conf_bool h rfl
  exact ⟨n, rfl⟩
theorem dc3 {ds : List DV} (h : Conf tyT 3 ds) : ∃ x : Int, ds = (fun n => [.int .i64 n] : Int → List DV) x := by
  obtain ⟨n, rfl, _⟩ := conf_int h (k := .i64) rfl
  exact ⟨n, rfl⟩
theorem dcE : ∀ {t : Nat} {ds : List DV}, Conf tyT t ds → (t = 24 → ∃ e : Expr, ds = encE e) ∧ (t = 22 → ∃ l : List Expr, ds = [.sl 4 (l.map encE) .no]) := by
  intro t ds h
  induction h with
  | int t k n h hw => exact ⟨fun e' => (by subst e'; rw [show (tyT 24).t = .strct [(0, 3), (1, 3), (2, 9), (3, 22)] from rfl] at h; cases h), fun e' => (by subst e'; rw [show (tyT 22).t = .slice 24 from rfl] at h; cases h)⟩
  | bool t b h => exact ⟨fun e' => (by subst e'; rw [show (tyT 24).t = .strct [(0, 3), (1, 3), (2, 9), (3, 22)] from rfl] at h; cases h), fun e' => (by subst e'; rw [show (tyT 22).t = .slice 24 from rfl] at h; cases h)⟩
  | str t l h => exact ⟨fun e' => (by subst e'; rw [show (tyT 24).t = .strct [(0, 3), (1, 3), (2, 9), (3, 22)] from rfl] at h; cases h), fun e' => (by subst e'; rw [show (tyT 22).t = .slice 24 from rfl] at h; cases h)⟩
  | slice t e xs h hx ih =>
    refine ⟨fun e' => (by subst e'; rw [show (tyT 24).t = .strct [(0, 3), (1, 3), (2, 9), (3, 22)] from rfl] at h; cases h), fun e' => ?_⟩
    subst e'
    rw [show (tyT 22).t = .slice 24 from rfl] at h
    cases h
    obtain ⟨l, rfl⟩ := map_of (f := encE) xs fun x hx' => (ih x hx').1 rfl
    exact ⟨l, rfl⟩
  | strct t fs ps h hl hp ih =>
    refine ⟨fun e' => ?_, fun e' => (by subst e'; rw [show (tyT 22).t = .slice 24 from rfl] at h; cases h)⟩
    subst e'
    rw [show (tyT 24).t = .strct [(0, 3), (1, 3), (2, 9), (3, 22)] from rfl] at h
    cases h
    obtain _ | ⟨p0, _ | ⟨p1, _ | ⟨p2, _ | ⟨p3, _ | ⟨_, _⟩⟩⟩⟩⟩ := ps
    all_goals (first | (simp at hl; done) | skip)
    obtain ⟨x0, rfl, _⟩ := conf_int (hp 0 _ p0 rfl rfl) (k := .i64) rfl
    obtain ⟨x1, rfl, _⟩ := conf_int (hp 1 _ p1 rfl rfl) (k := .i64) rfl
    obtain ⟨x2, rfl⟩ := conf_str (hp 2 _ p2 rfl rfl) rfl
    obtain ⟨l, rfl⟩ := (ih 3 _ p3 rfl rfl).2 rfl
    exact ⟨.mk x0 x1 x2 l, (encE_mk x0 x1 x2 l).symm⟩
theorem dc24 {ds : List DV} (h : Conf tyT 24 ds) : ∃ x : Expr, ds = encE x := (dcE h).1 rfl
theorem dc26 {ds : List DV} (h : Conf tyT 26 ds) : ∃ x : Policy, ds = encPolicy x := by
  obtain ⟨p0, _, rfl, h0, p1, _, rfl, h1, p2, _, rfl, h2, p3, _, rfl, h3, p4, _, rfl, h4, p5, _, rfl, h5, rfl⟩ := conf_strct h (fs := [(0, 9), (1, 4), (2, 3), (3, 3), (4, 3), (5, 24)]) rfl
  obtain ⟨x0, rfl⟩ := dc9 h0
  obtain ⟨x1, rfl⟩ := dc4 h1
  obtain ⟨x2, rfl⟩ := dc3 h2
  obtain ⟨x3, rfl⟩ := dc3 h3
  obtain ⟨x4, rfl⟩ := dc3 h4
  obtain ⟨x5, rfl⟩ := dc24 h5
  obtain ⟨e0, e1, e2, e3⟩ := x5
  rw [encE_mk]
  exact ⟨⟨x0, x1, x2, x3, x4, .mk e0 e1 e2 e3⟩, rfl⟩

theorem own : ownKnob Tryd.prog.godebug = none := by kernel_rfl
theorem laidOut : laidOutB Tryd.prog = true := by kernel_rfl
theorem isClosed : closedT tyT [26, 9, 4, 3, 24, 22] = true := by kernel_rfl

theorem law_all : ∀ avs, ConfAll tyT [26] avs → Gives Tryd.prog 3 avs (.d (.bool true)) := by
  intro avs h
  obtain _ | ⟨a0, _ | ⟨_, _⟩⟩ := avs
  all_goals (first | (simp only [ConfAll] at h; done) | skip)
  all_goals (try (simp only [ConfAll, and_false] at h; done))
  obtain ⟨h0, _⟩ := h
  obtain ⟨d0, _, rfl, g0⟩ | ⟨_, hb, _⟩ := h0
  rotate_left
  · cases hb
  obtain ⟨x0, rfl⟩ := dc26 g0
  exact xPolText x0.name x0.allow x0.who x0.what x0.acts x0.when.kind x0.when.number x0.when.name x0.when.parts
theorem globOk : ∀ w : World, w.ShapedOpen Tryd.prog → laidMetH Tryd.prog Rows.fnExactPolicyTextRow.laid w → (default : Glob).ok w fun b => b < w.heap.size := fun w _ hL => by
  have hL' : laidMet Tryd.prog Rows.fnExactPolicyTextRow.laid w := hL
  exact mapG_of_laid (n := "loop.example/accesspolicies/impl.exprWords") (g := 0) hL' (.tail _ (.tail _ (.tail _ (.head _)))) (by kernel_rfl) (by kernel_rfl) tWordsD (by kernel_rfl) (by kernel_rfl) exprTab (fun w => by kernel_rfl) (fun p hp => by
    simp only [exprTab, List.mem_cons, List.not_mem_nil, or_false] at hp
    rcases hp with rfl | rfl | rfl | rfl | rfl | rfl | rfl | rfl | rfl | rfl | rfl | rfl <;> exact ⟨rfl, rfl⟩)
/-- A world whose listed variables hold what the row lists. -/
noncomputable def laidW (os : Os) : World :=
  let N := (World.settled Tryd.prog os).heap.size
  let w0 := World.holding Tryd.prog os ⟨#[.map #[⟨.int .i64 4, .string ⟨#[119, 104, 111]⟩, 0⟩, ⟨.int .i64 5, .string ⟨#[119, 104, 97, 116]⟩, 1⟩, ⟨.int .i64 6, .string ⟨#[97, 99, 116]⟩, 2⟩, ⟨.int .i64 7, .string ⟨#[114, 101, 113, 117, 101, 115, 116]⟩, 3⟩, ⟨.int .i64 8, .string ⟨#[102, 105, 101, 108, 100]⟩, 4⟩, ⟨.int .i64 9, .string ⟨#[104, 97, 115]⟩, 5⟩, ⟨.int .i64 10, .string ⟨#[115, 97, 109, 101]⟩, 6⟩, ⟨.int .i64 11, .string ⟨#[108, 101, 115, 115]⟩, 7⟩, ⟨.int .i64 12, .string ⟨#[105, 110]⟩, 8⟩, ⟨.int .i64 13, .string ⟨#[110, 111, 116]⟩, 9⟩, ⟨.int .i64 14, .string ⟨#[97, 110, 100]⟩, 10⟩, ⟨.int .i64 15, .string ⟨#[111, 114]⟩, 11⟩] 12], #[], []⟩
  let put (h : Array Obj) (g : Nat) (cs : Array Value) : Array Obj := h.modify g fun
    | .cells _ t frozen => .cells cs t frozen
    | o => o
  { w0 with heap := put (layV Tryd.prog Rows.fnExactPolicyTextRow.laid w0.heap) 0 #[.map (some N)] }
set_option maxRecDepth 1000000 in
theorem laid_met (os : Os) (args : Array Value) : laidMetH Tryd.prog Rows.fnExactPolicyTextRow.laid ((laidW os).forCall (fun _ _ => 0) ⟨#[], args, []⟩).memory :=
  laidMet_of_run' 8 (by kernel_rfl) (by kernel_rfl)
theorem witness_row (os : Os) {H : Type} (enc : TypeId × Value → H) :
    (OpenSpec.ofChange Rows.fnExactPolicyTextSpec).preRow enc Tryd.prog Tryd.f3 Rows.fnExactPolicyTextRow.domain false Rows.fnExactPolicyTextRow.laid ((laidW os).forCall (fun _ _ => 0) ⟨#[], #[.agg #[.string ⟨#[]⟩, .bool false, .int .i64 0, .int .i64 0, .int .i64 0, .int .i64 0, .int .i64 0, .string ⟨#[]⟩, .slice none 0 0]], []⟩).memory #[.agg #[.string ⟨#[]⟩, .bool false, .int .i64 0, .int .i64 0, .int .i64 0, .int .i64 0, .int .i64 0, .string ⟨#[]⟩, .slice none 0 0]] := by
  have hw : (DataW.whole enc Tryd.prog ((laidW os).forCall (fun _ _ => 0) ⟨#[], #[.agg #[.string ⟨#[]⟩, .bool false, .int .i64 0, .int .i64 0, .int .i64 0, .int .i64 0, .int .i64 0, .string ⟨#[]⟩, .slice none 0 0]], []⟩).memory Tryd.f3.params.toList Rows.fnExactPolicyTextSpec.vars false (#[.agg #[.string ⟨#[]⟩, .bool false, .int .i64 0, .int .i64 0, .int .i64 0, .int .i64 0, .int .i64 0, .string ⟨#[]⟩, .slice none 0 0]] : Array Value).toList 8).map (fun x => (x.1, x.2.1)) = some ([.agg [.lit (.string []), .lit (.bool false), .lit (.int .i64 0), .lit (.int .i64 0), .lit (.int .i64 0), .agg [.lit (.int .i64 0), .lit (.int .i64 0), .lit (.string []), .nil]]], [Rows.laid_loop_example_accesspolicies_impl_exprWords]) := by kernel_rfl
  obtain ⟨⟨x1, x2, x3⟩, hx, hx1⟩ := Option.map_eq_some_iff.1 hw
  simp only [Prod.mk.injEq] at hx1
  obtain ⟨rfl, rfl⟩ := hx1
  exact OpenSpec.preRow_of_cond 8 hx (by kernel_rfl) (fun k hk => by cases hk) (by kernel_rfl) (laid_met os _)
set_option maxRecDepth 100000 in
theorem lifted (os : Os) (started : os.Started) (H : Type) (enc : TypeId × Value → H) :
    ReturnsInHanded {} Tryd.checked os 3 .any ((OpenSpec.ofChange Rows.fnExactPolicyTextSpec).preRow enc Tryd.prog Tryd.f3 Rows.fnExactPolicyTextRow.domain false Rows.fnExactPolicyTextRow.laid) (Rows.fnExactPolicyTextSpec.post enc Tryd.prog Tryd.f3 false true false false) :=
  lifted_rowV (C := Tryd.checked) TT [26, 9, 4, 3, 24, 22] isClosed [26] 4 globOk laidOut (by rw [Tryd.params3]) (by kernel_rfl) (by kernel_rfl) (by kernel_rfl) Tryd.underlying4 (by kernel_rfl)
    (fun ds gs h h' => by obtain _ | ⟨d0, _ | ⟨_, _⟩⟩ := ds; all_goals first | (simp at h; done) | skip; obtain _ | ⟨g0, _ | ⟨_, _⟩⟩ := gs; all_goals first | rfl | (simp [Rows.fnExactPolicyTextSpec] at h'))
    law_all own started (by kernel_rfl) Tryd.func3
    (witness_row_atRef (enc := enc) (C := Tryd.checked) false (laidW os) #[.agg #[.string ⟨#[]⟩, .bool false, .int .i64 0, .int .i64 0, .int .i64 0, .int .i64 0, .int .i64 0, .string ⟨#[]⟩, .slice none 0 0]] rfl (by kernel_rfl) (by kernel_rfl) (by kernel_rfl) (witness_row os enc))
theorem row_holds : Rows.FnExactPolicyTextSaid :=
  OpenClaim.holds_of_wide 3 Tryd.f3 rfl rfl rfl rfl rfl rfl rfl ⟨rfl, rfl, rfl, rfl, rfl⟩ rfl rfl rfl rfl rfl (by kernel_rfl) Tryd.func3 joined
    (of_decide_eq_true (by kernel_rfl)) (by unfold Func.isWrapper; first | (rw [if_pos (by decide +kernel)]; kernel_rfl) | (rw [if_neg (by decide +kernel)]; exact ⟨rfl, rfl⟩))
    (fun os started H enc _ => by rw [OpenClaim.pre_eq_preRow]; exact lifted os started H enc)
/-- The row, its listed variables tied to the program's text. -/
theorem proved : Rows.FnExactPolicyTextCardSaid :=
  Claim7.holds_tied_plain_at .later [] [.data, .data, .data, .mapped] true (true, "43b8758b363f25b450b908ae0b30a3b38779a58536a809116d16ce729718edac") false row_holds (fun _ h => by cases h) (by kernel_rfl) (fun _ h => by cases h) fnExactPolicyText_row_tie rfl ⟨rfl, rfl⟩ (by kernel_rfl) rfl
    (fun f fn hf hfn => by
      obtain rfl : 3 = f := Option.some.inj ((show Tryd.prog.funcNamed "loop.example/accesspolicies/laws.FnExactPolicyText" = some 3 by kernel_rfl).symm.trans hf)
      obtain rfl : Tryd.f3 = fn := Option.some.inj (Tryd.func3.symm.trans hfn)
      refine ⟨by kernel_rfl, fun j t ht => ?_⟩
      rw [Tryd.params3] at ht
      rcases j with _ | j
      · obtain rfl : 26 = t := by simpa using ht
        kernel_rfl
      · simp at ht)
    (by kernel_rfl)
#print axioms proved
end Go.Proofs.YtaolcbhncnpldaaDoor
