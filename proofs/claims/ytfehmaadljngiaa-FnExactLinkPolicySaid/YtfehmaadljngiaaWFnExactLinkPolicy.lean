/- The law FnExactLinkPolicy as its contract tells it, lifted to the given statement: for every argument it returns true, and the arguments read as before. -/
import Derived.Test.YtfehmaadljngiaaO5
import Derived.Test.YtfehmaadljngiaaRows
import Derived.Test.YtfehmaadljngiaaJFnExactLinkPolicy
namespace Go.Proofs.Ytfehmaadljngiaa
open Go Go.AL Go.ChangeShapes Go.WideShapes Go.ChangeAt Go.RowKit
set_option linter.unusedVariables false

theorem dc9 {ds : List DV} (h : Conf tyT 9 ds) : ∃ x : List UInt8, ds = (fun s => [.str s] : List UInt8 → List DV) x := by
  obtain ⟨n, rfl⟩ := conf_str h rfl
  exact ⟨n, rfl⟩
theorem dc4 {ds : List DV} (h : Conf tyT 4 ds) : ∃ x : Bool, ds = (fun b => [.bool b] : Bool → List DV) x := by
  obtain ⟨n, rfl⟩ := conf_bool h rfl
  exact ⟨n, rfl⟩
theorem dc3 {ds : List DV} (h : Conf tyT 3 ds) : ∃ x : Int, ds = (fun n => [.int .i64 n] : Int → List DV) x := by
  obtain ⟨n, rfl, _⟩ := eW h (k := .i64) rfl
  exact ⟨n, rfl⟩
theorem dcE : ∀ {t : Nat} {ds : List DV}, Conf tyT t ds → (t = 24 → ∃ e : Expr, ds = encE e) ∧ (t = 22 → ∃ l : List Expr, ds = [.sl 4 (l.map encE) .no]) := by
  intro t ds h
  induction h with
  | int t k n h hw => exact ⟨fun e' => (by subst e'; rw [show (tyT 24).t = .strct [(0, 3), (1, 3), (2, 9), (3, 22)] from rfl] at h; cases h), fun e' => (by subst e'; rw [show (tyT 22).t = .slice 24 from rfl] at h; cases h)⟩
  | bool t b h => exact ⟨fun e' => (by subst e'; rw [show (tyT 24).t = .strct [(0, 3), (1, 3), (2, 9), (3, 22)] from rfl] at h; cases h), fun e' => (by subst e'; rw [show (tyT 22).t = .slice 24 from rfl] at h; cases h)⟩
  | str t l h => exact ⟨fun e' => (by subst e'; rw [show (tyT 24).t = .strct [(0, 3), (1, 3), (2, 9), (3, 22)] from rfl] at h; cases h), fun e' => (by subst e'; rw [show (tyT 22).t = .slice 24 from rfl] at h; cases h)⟩
  | slice t e xs h hx ih =>
    refine ⟨fun e' => (by subst e'; rw [show (tyT 24).t = .strct [(0, 3), (1, 3), (2, 9), (3, 22)] from rfl] at h; cases h), fun e' => ?_⟩
    subst e'
    rw [show (tyT 22).t = .slice 24 from rfl] at h
    cases h
    obtain ⟨l, rfl⟩ := map_of (f := encE) xs fun x hx' => (ih x hx').1 rfl
    exact ⟨l, rfl⟩
  | strct t fs ps h hl hp ih =>
    refine ⟨fun e' => ?_, fun e' => (by subst e'; rw [show (tyT 22).t = .slice 24 from rfl] at h; cases h)⟩
    subst e'
    rw [show (tyT 24).t = .strct [(0, 3), (1, 3), (2, 9), (3, 22)] from rfl] at h
    cases h
    obtain _ | ⟨p0, _ | ⟨p1, _ | ⟨p2, _ | ⟨p3, _ | ⟨_, _⟩⟩⟩⟩⟩ := ps
    all_goals (first | (simp at hl; done) | skip)
    obtain ⟨x0, rfl, _⟩ := eW (hp 0 _ p0 rfl rfl) (k := .i64) rfl
    obtain ⟨x1, rfl, _⟩ := eW (hp 1 _ p1 rfl rfl) (k := .i64) rfl
    obtain ⟨x2, rfl⟩ := conf_str (hp 2 _ p2 rfl rfl) rfl
    obtain ⟨l, rfl⟩ := (ih 3 _ p3 rfl rfl).2 rfl
    exact ⟨.mk x0 x1 x2 l, (f6 x0 x1 x2 l).symm⟩
theorem dc24 {ds : List DV} (h : Conf tyT 24 ds) : ∃ x : Expr, ds = encE x := (dcE h).1 rfl
theorem dc26 {ds : List DV} (h : Conf tyT 26 ds) : ∃ x : Policy, ds = eD x := by
  obtain ⟨p0, _, rfl, h0, p1, _, rfl, h1, p2, _, rfl, h2, p3, _, rfl, h3, p4, _, rfl, h4, p5, _, rfl, h5, rfl⟩ := conf_strct h (fs := [(0, 9), (1, 4), (2, 3), (3, 3), (4, 3), (5, 24)]) rfl
  obtain ⟨x0, rfl⟩ := dc9 h0
  obtain ⟨x1, rfl⟩ := dc4 h1
  obtain ⟨x2, rfl⟩ := dc3 h2
  obtain ⟨x3, rfl⟩ := dc3 h3
  obtain ⟨x4, rfl⟩ := dc3 h4
  obtain ⟨x5, rfl⟩ := dc24 h5
  obtain ⟨e0, e1, e2, e3⟩ := x5
  rw [f6]
  exact ⟨⟨x0, x1, x2, x3, x4, .mk e0 e1 e2 e3⟩, rfl⟩

theorem own : ownKnob Try.prog.godebug = none := by kernel_rfl
theorem laidOut : laidOutB Try.prog = true := by kernel_rfl
theorem isClosed : closedT tyT [26, 9, 4, 3, 24, 22] = true := by kernel_rfl

theorem law_all : ∀ avs, e5 tyT [26, 9, 3] avs → Gives Try.prog 4 avs (.d (.bool true)) := by
  intro avs h
  obtain _ | ⟨a0, _ | ⟨a1, _ | ⟨a2, _ | ⟨_, _⟩⟩⟩⟩ := avs
  all_goals (first | (simp only [e5] at h; done) | skip)
  all_goals (try (simp only [e5, and_false] at h; done))
  obtain ⟨h0, h1, h2, _⟩ := h
  obtain ⟨d0, _, rfl, g0⟩ | ⟨_, hb, _⟩ := h0
  rotate_left
  · cases hb
  obtain ⟨x0, rfl⟩ := dc26 g0
  obtain ⟨_, hb, _⟩ | ⟨c1, _, rfl, g1⟩ := h1
  · cases hb
  obtain ⟨x1, hx1⟩ := dc9 g1
  simp only [List.cons.injEq, and_true] at hx1
  subst hx1
  obtain ⟨_, hb, _⟩ | ⟨c2, _, rfl, g2⟩ := h2
  · cases hb
  obtain ⟨x2, hx2⟩ := dc3 g2
  simp only [List.cons.injEq, and_true] at hx2
  subst hx2
  exact xLink x0.name x0.allow x0.who x0.what x0.acts x0.when.kind x0.when.number x0.when.name x0.when.parts x1 x2

set_option maxRecDepth 100000 in
theorem lifted (os : Os) (started : os.Started) (H : Type) (enc : TypeId × Value → H) :
    ReturnsInHanded {} Try.checked os 4 .any (Rows.fnExactLinkPolicySpec.pre6 enc Try.prog Try.f4 Rows.fnExactLinkPolicyRow.domain false) (Rows.fnExactLinkPolicySpec.post enc Try.prog Try.f4 false true false false) :=
  lifted_law (C := Try.checked) TT [26, 9, 4, 3, 24, 22] isClosed [26, 9, 3] 4 laidOut (by rw [Try.params4]) (by kernel_rfl) (by kernel_rfl) (by kernel_rfl) Try.underlying4 rfl
    (fun ds h => by obtain _ | ⟨d0, _ | ⟨d1, _ | ⟨d2, _ | ⟨_, _⟩⟩⟩⟩ := ds; all_goals first | rfl | (simp at h))
    law_all own started (by kernel_rfl) Try.func4
    (ChangeSpec.witness6 (enc := enc) (C := Try.checked) false ⟨#[], #[.agg #[.string ⟨#[]⟩, .bool false, .int .i64 0, .int .i64 0, .int .i64 0, .int .i64 0, .int .i64 0, .string ⟨#[]⟩, .slice none 0 0], .string ⟨#[]⟩, .int .i64 0], []⟩ 8 (by kernel_rfl) (by kernel_rfl) (by kernel_rfl) (by kernel_rfl))

theorem proved : Rows.FnExactLinkPolicySaid :=
  OpenClaim.holds_of_wide 4 Try.f4 rfl rfl rfl rfl rfl rfl rfl ⟨rfl, rfl, rfl, rfl, rfl⟩ rfl rfl rfl rfl rfl (by kernel_rfl) Try.func4 joined
    (of_decide_eq_true (by kernel_rfl)) (by unfold Func.isWrapper; first | (rw [if_pos (by decide +kernel)]; kernel_rfl) | (rw [if_neg (by decide +kernel)]; exact ⟨rfl, rfl⟩))
    (fun os started H enc _ => lifted os started H enc)
#print axioms proved
end Go.Proofs.Ytfehmaadljngiaa
