/- The law FnExactDeskValid as its contract tells it, lifted to the given statement: for every argument it returns true, and the arguments read as before. -/
import Derived.Test.YtdfbaedkcfhdfaaQ3
import Derived.Test.YtdfbaedkcfhdfaaRows
import Derived.Test.YtdfbaedkcfhdfaaJFnExactDeskValid
namespace Go.Proofs.Ytdfbaedkcfhdfaa
open Go Go.AL Go.ChangeShapes Go.WideShapes Go.ChangeAt Go.RowKit
set_option linter.unusedVariables false

theorem dc3 {ds : List DV} (h : Conf tyT 3 ds) : ∃ x : Int, ds = (fun n => [.int .i64 n] : Int → List DV) x := by
  obtain ⟨n, rfl, _⟩ := conf_int h (k := .i64) rfl
  exact ⟨n, rfl⟩
theorem dc88 {ds : List DV} (h : Conf tyT 88 ds) : ∃ l : List (Int), ds = [.sl 1 (l.map encI) .no] := by
  obtain ⟨xs, rfl, hx⟩ := conf_slice h (e := 3) rfl
  obtain ⟨l, rfl⟩ := map_of (f := encI) xs fun x hx' => dc3 (hx x hx')
  exact ⟨l, rfl⟩
theorem dc9 {ds : List DV} (h : Conf tyT 9 ds) : ∃ x : List UInt8, ds = (fun s => [.str s] : List UInt8 → List DV) x := by
  obtain ⟨n, rfl⟩ := conf_str h rfl
  exact ⟨n, rfl⟩
theorem dc197 {ds : List DV} (h : Conf tyT 197 ds) : ∃ x : Field, ds = encF x := by
  obtain ⟨p0, _, rfl, h0, p1, _, rfl, h1, rfl⟩ := conf_strct h (fs := [(0, 9), (1, 195)]) rfl
  obtain ⟨x0, rfl⟩ := dc9 h0
  obtain ⟨q0, _, rfl, k0, q1, _, rfl, k1, rfl⟩ := conf_strct h1 (fs := [(0, 3), (1, 3)]) rfl
  obtain ⟨x1, rfl⟩ := dc3 k0
  obtain ⟨x2, rfl⟩ := dc3 k1
  exact ⟨⟨x0, x1, x2⟩, rfl⟩
theorem dc102 {ds : List DV} (h : Conf tyT 102 ds) : ∃ l : List (Field), ds = [.sl 3 (l.map encF) .no] := by
  obtain ⟨xs, rfl, hx⟩ := conf_slice h (e := 197) rfl
  obtain ⟨l, rfl⟩ := map_of (f := encF) xs fun x hx' => dc197 (hx x hx')
  exact ⟨l, rfl⟩
theorem dc104 {ds : List DV} (h : Conf tyT 104 ds) : ∃ x : Thing, ds = encT x := by
  obtain ⟨p0, _, rfl, h0, p1, _, rfl, h1, rfl⟩ := conf_strct h (fs := [(0, 88), (1, 102)]) rfl
  obtain ⟨x0, rfl⟩ := dc88 h0
  obtain ⟨x1, rfl⟩ := dc102 h1
  exact ⟨⟨x0, x1⟩, rfl⟩
theorem dc33 {ds : List DV} (h : Conf tyT 33 ds) : ∃ l : List (Thing), ds = [.sl 2 (l.map encT) .no] := by
  obtain ⟨xs, rfl, hx⟩ := conf_slice h (e := 104) rfl
  obtain ⟨l, rfl⟩ := map_of (f := encT) xs fun x hx' => dc104 (hx x hx')
  exact ⟨l, rfl⟩
theorem dc4 {ds : List DV} (h : Conf tyT 4 ds) : ∃ x : Bool, ds = (fun b => [.bool b] : Bool → List DV) x := by
  obtain ⟨n, rfl⟩ := conf_bool h rfl
  exact ⟨n, rfl⟩
theorem dcE : ∀ {t : Nat} {ds : List DV}, Conf tyT t ds → (t = 77 → ∃ e : Expr, ds = encE e) ∧ (t = 75 → ∃ l : List Expr, ds = [.sl 4 (l.map encE) .no]) := by
  intro t ds h
  induction h with
  | int t k n h hw => exact ⟨fun e' => (by subst e'; rw [show (tyT 77).t = .strct [(0, 3), (1, 3), (2, 9), (3, 75)] from rfl] at h; cases h), fun e' => (by subst e'; rw [show (tyT 75).t = .slice 77 from rfl] at h; cases h)⟩
  | bool t b h => exact ⟨fun e' => (by subst e'; rw [show (tyT 77).t = .strct [(0, 3), (1, 3), (2, 9), (3, 75)] from rfl] at h; cases h), fun e' => (by subst e'; rw [show (tyT 75).t = .slice 77 from rfl] at h; cases h)⟩
  | str t l h => exact ⟨fun e' => (by subst e'; rw [show (tyT 77).t = .strct [(0, 3), (1, 3), (2, 9), (3, 75)] from rfl] at h; cases h), fun e' => (by subst e'; rw [show (tyT 75).t = .slice 77 from rfl] at h; cases h)⟩
  | slice t e xs h hx ih =>
    refine ⟨fun e' => (by subst e'; rw [show (tyT 77).t = .strct [(0, 3), (1, 3), (2, 9), (3, 75)] from rfl] at h; cases h), fun e' => ?_⟩
    subst e'
    rw [show (tyT 75).t = .slice 77 from rfl] at h
    cases h
    obtain ⟨l, rfl⟩ := map_of (f := encE) xs fun x hx' => (ih x hx').1 rfl
    exact ⟨l, rfl⟩
  | strct t fs ps h hl hp ih =>
    refine ⟨fun e' => ?_, fun e' => (by subst e'; rw [show (tyT 75).t = .slice 77 from rfl] at h; cases h)⟩
    subst e'
    rw [show (tyT 77).t = .strct [(0, 3), (1, 3), (2, 9), (3, 75)] from rfl] at h
    cases h
    obtain _ | ⟨p0, _ | ⟨p1, _ | ⟨p2, _ | ⟨p3, _ | ⟨_, _⟩⟩⟩⟩⟩ := ps
    all_goals (first | (simp at hl; done) | skip)
    obtain ⟨x0, rfl, _⟩ := conf_int (hp 0 _ p0 rfl rfl) (k := .i64) rfl
    obtain ⟨x1, rfl, _⟩ := conf_int (hp 1 _ p1 rfl rfl) (k := .i64) rfl
    obtain ⟨x2, rfl⟩ := conf_str (hp 2 _ p2 rfl rfl) rfl
    obtain ⟨l, rfl⟩ := (ih 3 _ p3 rfl rfl).2 rfl
    exact ⟨.mk x0 x1 x2 l, (encE_mk x0 x1 x2 l).symm⟩
theorem dc77 {ds : List DV} (h : Conf tyT 77 ds) : ∃ x : Expr, ds = encE x := (dcE h).1 rfl
theorem dc161 {ds : List DV} (h : Conf tyT 161 ds) : ∃ x : Policy, ds = encPolicy x := by
  obtain ⟨p0, _, rfl, h0, p1, _, rfl, h1, p2, _, rfl, h2, p3, _, rfl, h3, p4, _, rfl, h4, p5, _, rfl, h5, rfl⟩ := conf_strct h (fs := [(0, 9), (1, 4), (2, 3), (3, 3), (4, 3), (5, 77)]) rfl
  obtain ⟨x0, rfl⟩ := dc9 h0
  obtain ⟨x1, rfl⟩ := dc4 h1
  obtain ⟨x2, rfl⟩ := dc3 h2
  obtain ⟨x3, rfl⟩ := dc3 h3
  obtain ⟨x4, rfl⟩ := dc3 h4
  obtain ⟨x5, rfl⟩ := dc77 h5
  obtain ⟨e0, e1, e2, e3⟩ := x5
  rw [encE_mk]
  exact ⟨⟨x0, x1, x2, x3, x4, .mk e0 e1 e2 e3⟩, rfl⟩
theorem dc44 {ds : List DV} (h : Conf tyT 44 ds) : ∃ l : List (Policy), ds = [.sl 9 (l.map encPolicy) .no] := by
  obtain ⟨xs, rfl, hx⟩ := conf_slice h (e := 161) rfl
  obtain ⟨l, rfl⟩ := map_of (f := encPolicy) xs fun x hx' => dc161 (hx x hx')
  exact ⟨l, rfl⟩
theorem dc46 {ds : List DV} (h : Conf tyT 46 ds) : ∃ x : Desk, ds = encDesk x := by
  obtain ⟨p0, _, rfl, h0, p1, _, rfl, h1, rfl⟩ := conf_strct h (fs := [(0, 33), (1, 44)]) rfl
  obtain ⟨x0, rfl⟩ := dc33 h0
  obtain ⟨x1, rfl⟩ := dc44 h1
  exact ⟨⟨x0, x1⟩, rfl⟩

theorem own : ownKnob Try.prog.godebug = none := by kernel_rfl
theorem laidOut : laidOutB Try.prog = true := by kernel_rfl
theorem isClosed : closedT tyT [46, 33, 104, 88, 3, 102, 197, 9, 195, 44, 161, 4, 77, 75] = true := by kernel_rfl

theorem law_all : ∀ avs, ConfAll tyT [46] avs → Gives Try.prog 8 avs (.d (.bool true)) := by
  intro avs h
  obtain _ | ⟨a0, _ | ⟨_, _⟩⟩ := avs
  all_goals (first | (simp only [ConfAll] at h; done) | skip)
  all_goals (try (simp only [ConfAll, and_false] at h; done))
  obtain ⟨h0, _⟩ := h
  obtain ⟨d0, _, rfl, g0⟩ | ⟨_, hb, _⟩ := h0
  rotate_left
  · cases hb
  obtain ⟨x0, rfl⟩ := dc46 g0
  exact xDesk x0.world x0.policies

set_option maxRecDepth 100000 in
theorem lifted (os : Os) (started : os.Started) (H : Type) (enc : TypeId × Value → H) :
    ReturnsInHanded {} Try.checked os 8 .any (Rows.fnExactDeskValidSpec.pre6 enc Try.prog Try.f8 Rows.fnExactDeskValidRow.domain false) (Rows.fnExactDeskValidSpec.post enc Try.prog Try.f8 false true false false) :=
  lifted_law (C := Try.checked) TT [46, 33, 104, 88, 3, 102, 197, 9, 195, 44, 161, 4, 77, 75] isClosed [46] 4 laidOut (by rw [Try.params8]) (by kernel_rfl) (by kernel_rfl) (by kernel_rfl) Try.underlying4 rfl
    (fun ds h => by obtain _ | ⟨d0, _ | ⟨_, _⟩⟩ := ds; all_goals first | rfl | (simp at h))
    law_all own started (by kernel_rfl) Try.func8
    (ChangeSpec.witness6 (enc := enc) (C := Try.checked) false ⟨#[], #[.agg #[.slice none 0 0, .slice none 0 0]], []⟩ 8 (by kernel_rfl) (by kernel_rfl) (by kernel_rfl) (by kernel_rfl))

theorem proved : Rows.FnExactDeskValidSaid :=
  OpenClaim.holds_of_wide 8 Try.f8 rfl rfl rfl rfl rfl rfl rfl ⟨rfl, rfl, rfl, rfl, rfl⟩ rfl rfl rfl rfl rfl (by kernel_rfl) Try.func8 joined
    (of_decide_eq_true (by kernel_rfl)) (by unfold Func.isWrapper; first | (rw [if_pos (by decide +kernel)]; kernel_rfl) | (rw [if_neg (by decide +kernel)]; exact ⟨rfl, rfl⟩))
    (fun os started H enc _ => lifted os started H enc)
#print axioms proved
end Go.Proofs.Ytdfbaedkcfhdfaa
