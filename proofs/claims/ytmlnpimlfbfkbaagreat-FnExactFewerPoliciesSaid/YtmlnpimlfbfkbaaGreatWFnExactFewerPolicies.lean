/- The law FnExactFewerPolicies as its contract tells it, lifted to the given statement: for every argument it returns true, and the arguments read as before. -/
import Derived.Test.YtmlnpimlfbfkbaaGreatS5
import Derived.Test.YtmlnpimlfbfkbaaGreatRows
import Derived.Test.YtmlnpimlfbfkbaaGreatJFnExactFewerPolicies
namespace Go.Proofs.YtmlnpimlfbfkbaaGreat
open Go Go.AL Go.ChangeShapes Go.WideShapes Go.ChangeAt Go.RowKit
set_option linter.unusedVariables false

theorem dc3 {ds : List DV} (h : Conf tyT 3 ds) : ∃ x : Int, ds = (fun n => [.int .i64 n] : Int → List DV) x := by
  obtain ⟨n, rfl, _⟩ := jE h (k := .i64) rfl
  exact ⟨n, rfl⟩
theorem dc50 {ds : List DV} (h : Conf tyT 50 ds) : ∃ l : List (Int), ds = [.sl 1 (l.map encI) .no] := by
  obtain ⟨xs, rfl, hx⟩ := fG h (e := 3) rfl
  obtain ⟨l, rfl⟩ := iO (f := encI) xs fun x hx' => dc3 (hx x hx')
  exact ⟨l, rfl⟩
theorem dc9 {ds : List DV} (h : Conf tyT 9 ds) : ∃ x : List UInt8, ds = (fun s => [.str s] : List UInt8 → List DV) x := by
  obtain ⟨n, rfl⟩ := conf_str h rfl
  exact ⟨n, rfl⟩
theorem dc110 {ds : List DV} (h : Conf tyT 110 ds) : ∃ x : Field, ds = encF x := by
  obtain ⟨p0, _, rfl, h0, p1, _, rfl, h1, rfl⟩ := fJ h (fs := [(0, 9), (1, 108)]) rfl
  obtain ⟨x0, rfl⟩ := dc9 h0
  obtain ⟨q0, _, rfl, k0, q1, _, rfl, k1, rfl⟩ := fJ h1 (fs := [(0, 3), (1, 3)]) rfl
  obtain ⟨x1, rfl⟩ := dc3 k0
  obtain ⟨x2, rfl⟩ := dc3 k1
  exact ⟨⟨x0, x1, x2⟩, rfl⟩
theorem dc23 {ds : List DV} (h : Conf tyT 23 ds) : ∃ l : List (Field), ds = [.sl 3 (l.map encF) .no] := by
  obtain ⟨xs, rfl, hx⟩ := fG h (e := 110) rfl
  obtain ⟨l, rfl⟩ := iO (f := encF) xs fun x hx' => dc110 (hx x hx')
  exact ⟨l, rfl⟩
theorem dc80 {ds : List DV} (h : Conf tyT 80 ds) : ∃ x : Thing, ds = encT x := by
  obtain ⟨p0, _, rfl, h0, p1, _, rfl, h1, rfl⟩ := fJ h (fs := [(0, 50), (1, 23)]) rfl
  obtain ⟨x0, rfl⟩ := dc50 h0
  obtain ⟨x1, rfl⟩ := dc23 h1
  exact ⟨⟨x0, x1⟩, rfl⟩
theorem dc22 {ds : List DV} (h : Conf tyT 22 ds) : ∃ l : List (Thing), ds = [.sl 2 (l.map encT) .no] := by
  obtain ⟨xs, rfl, hx⟩ := fG h (e := 80) rfl
  obtain ⟨l, rfl⟩ := iO (f := encT) xs fun x hx' => dc80 (hx x hx')
  exact ⟨l, rfl⟩
theorem dc4 {ds : List DV} (h : Conf tyT 4 ds) : ∃ x : Bool, ds = (fun b => [.bool b] : Bool → List DV) x := by
  obtain ⟨n, rfl⟩ := conf_bool h rfl
  exact ⟨n, rfl⟩
theorem dcE : ∀ {t : Nat} {ds : List DV}, Conf tyT t ds → (t = 84 → ∃ e : Expr, ds = encE e) ∧ (t = 82 → ∃ l : List Expr, ds = [.sl 4 (l.map encE) .no]) := by
  intro t ds h
  induction h with
  | int t k n h hw => exact ⟨fun e' => (by subst e'; rw [show (tyT 84).t = .strct [(0, 3), (1, 3), (2, 9), (3, 82)] from rfl] at h; cases h), fun e' => (by subst e'; rw [show (tyT 82).t = .slice 84 from rfl] at h; cases h)⟩
  | bool t b h => exact ⟨fun e' => (by subst e'; rw [show (tyT 84).t = .strct [(0, 3), (1, 3), (2, 9), (3, 82)] from rfl] at h; cases h), fun e' => (by subst e'; rw [show (tyT 82).t = .slice 84 from rfl] at h; cases h)⟩
  | str t l h => exact ⟨fun e' => (by subst e'; rw [show (tyT 84).t = .strct [(0, 3), (1, 3), (2, 9), (3, 82)] from rfl] at h; cases h), fun e' => (by subst e'; rw [show (tyT 82).t = .slice 84 from rfl] at h; cases h)⟩
  | slice t e xs h hx ih =>
    refine ⟨fun e' => (by subst e'; rw [show (tyT 84).t = .strct [(0, 3), (1, 3), (2, 9), (3, 82)] from rfl] at h; cases h), fun e' => ?_⟩
    subst e'
    rw [show (tyT 82).t = .slice 84 from rfl] at h
    cases h
    obtain ⟨l, rfl⟩ := iO (f := encE) xs fun x hx' => (ih x hx').1 rfl
    exact ⟨l, rfl⟩
  | strct t fs ps h hl hp ih =>
    refine ⟨fun e' => ?_, fun e' => (by subst e'; rw [show (tyT 82).t = .slice 84 from rfl] at h; cases h)⟩
    subst e'
    rw [show (tyT 84).t = .strct [(0, 3), (1, 3), (2, 9), (3, 82)] from rfl] at h
    cases h
    obtain _ | ⟨p0, _ | ⟨p1, _ | ⟨p2, _ | ⟨p3, _ | ⟨_, _⟩⟩⟩⟩⟩ := ps
    all_goals (first | (simp at hl; done) | skip)
    obtain ⟨x0, rfl, _⟩ := jE (hp 0 _ p0 rfl rfl) (k := .i64) rfl
    obtain ⟨x1, rfl, _⟩ := jE (hp 1 _ p1 rfl rfl) (k := .i64) rfl
    obtain ⟨x2, rfl⟩ := conf_str (hp 2 _ p2 rfl rfl) rfl
    obtain ⟨l, rfl⟩ := (ih 3 _ p3 rfl rfl).2 rfl
    exact ⟨.mk x0 x1 x2 l, (jO x0 x1 x2 l).symm⟩
theorem dc84 {ds : List DV} (h : Conf tyT 84 ds) : ∃ x : Expr, ds = encE x := (dcE h).1 rfl
theorem dc86 {ds : List DV} (h : Conf tyT 86 ds) : ∃ x : Policy, ds = bL x := by
  obtain ⟨p0, _, rfl, h0, p1, _, rfl, h1, p2, _, rfl, h2, p3, _, rfl, h3, p4, _, rfl, h4, p5, _, rfl, h5, rfl⟩ := fJ h (fs := [(0, 9), (1, 4), (2, 3), (3, 3), (4, 3), (5, 84)]) rfl
  obtain ⟨x0, rfl⟩ := dc9 h0
  obtain ⟨x1, rfl⟩ := dc4 h1
  obtain ⟨x2, rfl⟩ := dc3 h2
  obtain ⟨x3, rfl⟩ := dc3 h3
  obtain ⟨x4, rfl⟩ := dc3 h4
  obtain ⟨x5, rfl⟩ := dc84 h5
  obtain ⟨e0, e1, e2, e3⟩ := x5
  rw [jO]
  exact ⟨⟨x0, x1, x2, x3, x4, .mk e0 e1 e2 e3⟩, rfl⟩
theorem dc26 {ds : List DV} (h : Conf tyT 26 ds) : ∃ l : List (Policy), ds = [.sl 9 (l.map bL) .no] := by
  obtain ⟨xs, rfl, hx⟩ := fG h (e := 86) rfl
  obtain ⟨l, rfl⟩ := iO (f := bL) xs fun x hx' => dc86 (hx x hx')
  exact ⟨l, rfl⟩

theorem own : ownKnob Tryz.prog.godebug = none := by kernel_rfl
theorem laidOut : laidOutB Tryz.prog = true := by kernel_rfl
theorem isClosed : closedT tyT [22, 80, 50, 3, 23, 110, 9, 108, 26, 86, 4, 84, 82] = true := by kernel_rfl

theorem law_all : ∀ avs, iB tyT [22, 23, 26] avs → Gives Tryz.prog 9 avs (.d (.bool true)) := by
  intro avs h
  obtain _ | ⟨a0, _ | ⟨a1, _ | ⟨a2, _ | ⟨_, _⟩⟩⟩⟩ := avs
  all_goals (first | (simp only [iB] at h; done) | skip)
  all_goals (try (simp only [iB, and_false] at h; done))
  obtain ⟨h0, h1, h2, _⟩ := h
  obtain ⟨_, hb, _⟩ | ⟨c0, _, rfl, g0⟩ := h0
  · cases hb
  obtain ⟨x0, hx0⟩ := dc22 g0
  simp only [List.cons.injEq, and_true] at hx0
  subst hx0
  obtain ⟨_, hb, _⟩ | ⟨c1, _, rfl, g1⟩ := h1
  · cases hb
  obtain ⟨x1, hx1⟩ := dc23 g1
  simp only [List.cons.injEq, and_true] at hx1
  subst hx1
  obtain ⟨_, hb, _⟩ | ⟨c2, _, rfl, g2⟩ := h2
  · cases hb
  obtain ⟨x2, hx2⟩ := dc26 g2
  simp only [List.cons.injEq, and_true] at hx2
  subst hx2
  exact xFew x0 x1 x2

set_option maxRecDepth 100000 in
theorem lifted (os : Os) (started : os.Started) (H : Type) (enc : TypeId × Value → H) :
    ReturnsInHanded {} Tryz.checked os 9 .any (Rows.fnExactFewerPoliciesSpec.pre6 enc Tryz.prog Tryz.f9 Rows.fnExactFewerPoliciesRow.domain false) (Rows.fnExactFewerPoliciesSpec.post enc Tryz.prog Tryz.f9 false true false false) :=
  lifted_law (C := Tryz.checked) TT [22, 80, 50, 3, 23, 110, 9, 108, 26, 86, 4, 84, 82] isClosed [22, 23, 26] 4 laidOut (by rw [Tryz.params9]) (by kernel_rfl) (by kernel_rfl) (by kernel_rfl) Tryz.underlying4 rfl
    (fun ds h => by obtain _ | ⟨d0, _ | ⟨d1, _ | ⟨d2, _ | ⟨_, _⟩⟩⟩⟩ := ds; all_goals first | rfl | (simp at h))
    law_all own started (by kernel_rfl) Tryz.func9
    (ChangeSpec.witness6 (enc := enc) (C := Tryz.checked) false ⟨#[], #[.slice none 0 0, .slice none 0 0, .slice none 0 0], []⟩ 8 (by kernel_rfl) (by kernel_rfl) (by kernel_rfl) (by kernel_rfl))

theorem proved : Rows.FnExactFewerPoliciesSaid :=
  OpenClaim.holds_of_wide 9 Tryz.f9 rfl rfl rfl rfl rfl rfl rfl ⟨rfl, rfl, rfl, rfl, rfl⟩ rfl rfl rfl rfl rfl (by kernel_rfl) Tryz.func9 joined
    (of_decide_eq_true (by kernel_rfl)) (by unfold Func.isWrapper; first | (rw [if_pos (by decide +kernel)]; kernel_rfl) | (rw [if_neg (by decide +kernel)]; exact ⟨rfl, rfl⟩))
    (fun os started H enc _ => lifted os started H enc)
#print axioms proved
end Go.Proofs.YtmlnpimlfbfkbaaGreat
