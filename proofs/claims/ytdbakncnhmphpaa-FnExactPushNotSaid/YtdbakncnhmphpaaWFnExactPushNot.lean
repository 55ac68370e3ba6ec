/- The law FnExactPushNot as its contract tells it, lifted to the given statement: for every argument it returns true, and the arguments read as before. -/
import Derived.Test.YtdbakncnhmphpaaY13
import Derived.Test.YtdbakncnhmphpaaRows
import Derived.Test.YtdbakncnhmphpaaJFnExactPushNot
namespace Go.Proofs.Ytdbakncnhmphpaa
open Go Go.AL Go.ChangeShapes Go.WideShapes Go.ChangeAt Go.RowKit
set_option linter.unusedVariables false

theorem dc9 {ds : List DV} (h : Conf tyT 9 ds) : ∃ x : List UInt8, ds = (fun s => [.str s] : List UInt8 → List DV) x := by
  obtain ⟨n, rfl⟩ := conf_str h rfl
  exact ⟨n, rfl⟩
theorem dc3 {ds : List DV} (h : Conf tyT 3 ds) : ∃ x : Int, ds = (fun n => [.int .i64 n] : Int → List DV) x := by
  obtain ⟨n, rfl, _⟩ := conf_int h (k := .i64) rfl
  exact ⟨n, rfl⟩
theorem dc93 {ds : List DV} (h : Conf tyT 93 ds) : ∃ x : Kinded, ds = encK x := by
  obtain ⟨p0, _, rfl, h0, p1, _, rfl, h1, rfl⟩ := conf_strct h (fs := [(0, 9), (1, 3)]) rfl
  obtain ⟨x0, rfl⟩ := dc9 h0
  obtain ⟨x1, rfl⟩ := dc3 h1
  exact ⟨⟨x0, x1⟩, rfl⟩
theorem dc22 {ds : List DV} (h : Conf tyT 22 ds) : ∃ l : List (Kinded), ds = [.sl 2 (l.map encK) .no] := by
  obtain ⟨xs, rfl, hx⟩ := conf_slice h (e := 93) rfl
  obtain ⟨l, rfl⟩ := map_of (f := encK) xs fun x hx' => dc93 (hx x hx')
  exact ⟨l, rfl⟩
theorem dc24 {ds : List DV} (h : Conf tyT 24 ds) : ∃ x : Schema, ds = encSchema x := by
  obtain ⟨p0, _, rfl, h0, p1, _, rfl, h1, rfl⟩ := conf_strct h (fs := [(0, 22), (1, 22)]) rfl
  obtain ⟨x0, rfl⟩ := dc22 h0
  obtain ⟨x1, rfl⟩ := dc22 h1
  exact ⟨⟨x0, x1⟩, rfl⟩
theorem dcE : ∀ {t : Nat} {ds : List DV}, Conf tyT t ds → (t = 27 → ∃ e : Expr, ds = encE e) ∧ (t = 25 → ∃ l : List Expr, ds = [.sl 4 (l.map encE) .no]) := by
  intro t ds h
  induction h with
  | int t k n h hw => exact ⟨fun e' => (by subst e'; rw [show (tyT 27).t = .strct [(0, 3), (1, 3), (2, 9), (3, 25)] from rfl] at h; cases h), fun e' => (by subst e'; rw [show (tyT 25).t = .slice 27 from rfl] at h; cases h)⟩
  | bool t b h => exact ⟨fun e' => (by subst e'; rw [show (tyT 27).t = .strct [(0, 3), (1, 3), (2, 9), (3, 25)] from rfl] at h; cases h), fun e' => (by subst e'; rw [show (tyT 25).t = .slice 27 from rfl] at h; cases h)⟩
  | str t l h => exact ⟨fun e' => (by subst e'; rw [show (tyT 27).t = .strct [(0, 3), (1, 3), (2, 9), (3, 25)] from rfl] at h; cases h), fun e' => (by subst e'; rw [show (tyT 25).t = .slice 27 from rfl] at h; cases h)⟩
  | slice t e xs h hx ih =>
    refine ⟨fun e' => (by subst e'; rw [show (tyT 27).t = .strct [(0, 3), (1, 3), (2, 9), (3, 25)] from rfl] at h; cases h), fun e' => ?_⟩
    subst e'
    rw [show (tyT 25).t = .slice 27 from rfl] at h
    cases h
    obtain ⟨l, rfl⟩ := map_of (f := encE) xs fun x hx' => (ih x hx').1 rfl
    exact ⟨l, rfl⟩
  | strct t fs ps h hl hp ih =>
    refine ⟨fun e' => ?_, fun e' => (by subst e'; rw [show (tyT 25).t = .slice 27 from rfl] at h; cases h)⟩
    subst e'
    rw [show (tyT 27).t = .strct [(0, 3), (1, 3), (2, 9), (3, 25)] from rfl] at h
    cases h
    obtain _ | ⟨p0, _ | ⟨p1, _ | ⟨p2, _ | ⟨p3, _ | ⟨_, _⟩⟩⟩⟩⟩ := ps
    all_goals (first | (simp at hl; done) | skip)
    obtain ⟨x0, rfl, _⟩ := conf_int (hp 0 _ p0 rfl rfl) (k := .i64) rfl
    obtain ⟨x1, rfl, _⟩ := conf_int (hp 1 _ p1 rfl rfl) (k := .i64) rfl
    obtain ⟨x2, rfl⟩ := conf_str (hp 2 _ p2 rfl rfl) rfl
    obtain ⟨l, rfl⟩ := (ih 3 _ p3 rfl rfl).2 rfl
    exact ⟨.mk x0 x1 x2 l, (encE_mk x0 x1 x2 l).symm⟩
theorem dc27 {ds : List DV} (h : Conf tyT 27 ds) : ∃ x : Expr, ds = encE x := (dcE h).1 rfl

theorem own : ownKnob Try.prog.godebug = none := by kernel_rfl
theorem laidOut : laidOutB Try.prog = true := by kernel_rfl
theorem isClosed : closedT tyT [24, 22, 93, 9, 3, 27, 25] = true := by kernel_rfl

theorem law_all : ∀ avs, ConfAll tyT [24, 27] avs → Gives Try.prog 3 avs (.d (.bool true)) := by
  intro avs h
  obtain _ | ⟨a0, _ | ⟨a1, _ | ⟨_, _⟩⟩⟩ := avs
  all_goals (first | (simp only [ConfAll] at h; done) | skip)
  all_goals (try (simp only [ConfAll, and_false] at h; done))
  obtain ⟨h0, h1, _⟩ := h
  obtain ⟨d0, _, rfl, g0⟩ | ⟨_, hb, _⟩ := h0
  rotate_left
  · cases hb
  obtain ⟨x0, rfl⟩ := dc24 g0
  obtain ⟨d1, _, rfl, g1⟩ | ⟨_, hb, _⟩ := h1
  rotate_left
  · cases hb
  obtain ⟨x1, rfl⟩ := dc27 g1
  rw [encE_eq]
  exact xPush x0.things x0.requests x1.kind x1.number x1.name x1.parts

set_option maxRecDepth 100000 in
theorem lifted (os : Os) (started : os.Started) (H : Type) (enc : TypeId × Value → H) :
    ReturnsInHanded {} Try.checked os 3 .any (Rows.fnExactPushNotSpec.pre6 enc Try.prog Try.f3 Rows.fnExactPushNotRow.domain false) (Rows.fnExactPushNotSpec.post enc Try.prog Try.f3 false true false false) :=
  lifted_law (C := Try.checked) TT [24, 22, 93, 9, 3, 27, 25] isClosed [24, 27] 4 laidOut (by rw [Try.params3]) (by kernel_rfl) (by kernel_rfl) (by kernel_rfl) Try.underlying4 rfl
    (fun ds h => by obtain _ | ⟨d0, _ | ⟨d1, _ | ⟨_, _⟩⟩⟩ := ds; all_goals first | rfl | (simp at h))
    law_all own started (by kernel_rfl) Try.func3
    (ChangeSpec.witness6 (enc := enc) (C := Try.checked) false ⟨#[], #[.agg #[.slice none 0 0, .slice none 0 0], .agg #[.int .i64 0, .int .i64 0, .string ⟨#[]⟩, .slice none 0 0]], []⟩ 8 (by kernel_rfl) (by kernel_rfl) (by kernel_rfl) (by kernel_rfl))

theorem proved : Rows.FnExactPushNotSaid :=
  OpenClaim.holds_of_wide 3 Try.f3 rfl rfl rfl rfl rfl rfl rfl ⟨rfl, rfl, rfl, rfl, rfl⟩ rfl rfl rfl rfl rfl (by kernel_rfl) Try.func3 joined
    (of_decide_eq_true (by kernel_rfl)) (by unfold Func.isWrapper; first | (rw [if_pos (by decide +kernel)]; kernel_rfl) | (rw [if_neg (by decide +kernel)]; exact ⟨rfl, rfl⟩))
    (fun os started H enc _ => lifted os started H enc)
#print axioms proved
end Go.Proofs.Ytdbakncnhmphpaa
