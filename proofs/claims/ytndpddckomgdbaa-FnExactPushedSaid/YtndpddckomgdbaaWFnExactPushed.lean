/- The law FnExactPushed as its contract tells it, lifted to the given statement: for every argument it returns true, and the arguments read as before. -/
import Derived.Test.YtndpddckomgdbaaP3
import Derived.Test.YtndpddckomgdbaaRows
namespace Go.Proofs.Ytndpddckomgdbaa
open Go Go.AL Go.ChangeShapes Go.WideShapes Go.ChangeAt Go.RowKit
set_option linter.unusedVariables false

theorem dcE : ∀ {t : Nat} {ds : List DV}, Conf tyT t ds → (t = 35 → ∃ e : Expr, ds = encE e) ∧ (t = 33 → ∃ l : List Expr, ds = [.sl 4 (l.map encE) .no]) := by
  intro t ds h
  induction h with
  | int t k n h hw => exact ⟨fun e' => (by subst e'; rw [show (tyT 35).t = .strct [(0, 3), (1, 3), (2, 9), (3, 33)] from rfl] at h; cases h), fun e' => (by subst e'; rw [show (tyT 33).t = .slice 35 from rfl] at h; cases h)⟩
  | bool t b h => exact ⟨fun e' => (by subst e'; rw [show (tyT 35).t = .strct [(0, 3), (1, 3), (2, 9), (3, 33)] from rfl] at h; cases h), fun e' => (by subst e'; rw [show (tyT 33).t = .slice 35 from rfl] at h; cases h)⟩
  | str t l h => exact ⟨fun e' => (by subst e'; rw [show (tyT 35).t = .strct [(0, 3), (1, 3), (2, 9), (3, 33)] from rfl] at h; cases h), fun e' => (by subst e'; rw [show (tyT 33).t = .slice 35 from rfl] at h; cases h)⟩
  | slice t e xs h hx ih =>
    refine ⟨fun e' => (by subst e'; rw [show (tyT 35).t = .strct [(0, 3), (1, 3), (2, 9), (3, 33)] from rfl] at h; cases h), fun e' => ?_⟩
    subst e'
    rw [show (tyT 33).t = .slice 35 from rfl] at h
    cases h
    obtain ⟨l, rfl⟩ := map_of (f := encE) xs fun x hx' => (ih x hx').1 rfl
    exact ⟨l, rfl⟩
  | strct t fs ps h hl hp ih =>
    refine ⟨fun e' => ?_, fun e' => (by subst e'; rw [show (tyT 33).t = .slice 35 from rfl] at h; cases h)⟩
    subst e'
    rw [show (tyT 35).t = .strct [(0, 3), (1, 3), (2, 9), (3, 33)] from rfl] at h
    cases h
    obtain _ | ⟨p0, _ | ⟨p1, _ | ⟨p2, _ | ⟨p3, _ | ⟨_, _⟩⟩⟩⟩⟩ := ps
    all_goals (first | (simp at hl; done) | skip)
    obtain ⟨x0, rfl, _⟩ := conf_int (hp 0 _ p0 rfl rfl) (k := .i64) rfl
    obtain ⟨x1, rfl, _⟩ := conf_int (hp 1 _ p1 rfl rfl) (k := .i64) rfl
    obtain ⟨x2, rfl⟩ := conf_str (hp 2 _ p2 rfl rfl) rfl
    obtain ⟨l, rfl⟩ := (ih 3 _ p3 rfl rfl).2 rfl
    exact ⟨.mk x0 x1 x2 l, (encE_mk x0 x1 x2 l).symm⟩
theorem dc35 {ds : List DV} (h : Conf tyT 35 ds) : ∃ x : Expr, ds = encE x := (dcE h).1 rfl

theorem own : ownKnob Try.prog.godebug = none := by kernel_rfl
theorem laidOut : laidOutB Try.prog = true := by kernel_rfl
theorem isClosed : closedT tyT [35, 3, 9, 33] = true := by kernel_rfl

theorem law_all : ∀ avs, ConfAll tyT [35] avs → Gives Try.prog 10 avs (.d (.bool true)) := by
  intro avs h
  obtain _ | ⟨a0, _ | ⟨_, _⟩⟩ := avs
  all_goals (first | (simp only [ConfAll] at h; done) | skip)
  all_goals (try (simp only [ConfAll, and_false] at h; done))
  obtain ⟨h0, _⟩ := h
  obtain ⟨d0, _, rfl, g0⟩ | ⟨_, hb, _⟩ := h0
  rotate_left
  · cases hb
  obtain ⟨x0, rfl⟩ := dc35 g0
  rw [encE_eq]
  exact xPushed x0.kind x0.number x0.name x0.parts

set_option maxRecDepth 100000 in
theorem lifted (os : Os) (started : os.Started) (H : Type) (enc : TypeId × Value → H) :
    ReturnsInHanded {} Try.checked os 10 .any (Rows.fnExactPushedSpec.pre6 enc Try.prog Try.f10 Rows.fnExactPushedRow.domain false) (Rows.fnExactPushedSpec.post enc Try.prog Try.f10 false true false false) :=
  lifted_law (C := Try.checked) TT [35, 3, 9, 33] isClosed [35] 4 laidOut (by rw [Try.params10]) (by kernel_rfl) (by kernel_rfl) (by kernel_rfl) Try.underlying4 rfl
    (fun ds h => by obtain _ | ⟨d0, _ | ⟨_, _⟩⟩ := ds; all_goals first | rfl | (simp at h))
    law_all own started (by kernel_rfl) Try.func10
    (ChangeSpec.witness6 (enc := enc) (C := Try.checked) false ⟨#[], #[.agg #[.int .i64 0, .int .i64 0, .string ⟨#[]⟩, .slice none 0 0]], []⟩ 8 (by kernel_rfl) (by kernel_rfl) (by kernel_rfl) (by kernel_rfl))

theorem proved : Rows.FnExactPushedSaid :=
  OpenClaim.holds_of_wide 10 Try.f10 rfl rfl rfl rfl rfl rfl rfl ⟨rfl, rfl, rfl, rfl, rfl⟩ rfl rfl rfl rfl rfl (by kernel_rfl) Try.func10 (by kernel_rfl)
    (of_decide_eq_true (by kernel_rfl)) (by unfold Func.isWrapper; first | (rw [if_pos (by decide +kernel)]; kernel_rfl) | (rw [if_neg (by decide +kernel)]; exact ⟨rfl, rfl⟩))
    (fun os started H enc _ => lifted os started H enc)
#print axioms proved
end Go.Proofs.Ytndpddckomgdbaa
