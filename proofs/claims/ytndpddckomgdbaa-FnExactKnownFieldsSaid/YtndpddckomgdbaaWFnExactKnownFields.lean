/- The law FnExactKnownFields as its contract tells it, lifted to the given statement: for every argument it returns true, and the arguments read as before. -/
import Derived.Test.YtndpddckomgdbaaM2
import Derived.Test.YtndpddckomgdbaaRows
import Derived.Test.YtndpddckomgdbaaJFnExactKnownFields
namespace Go.Proofs.Ytndpddckomgdbaa
open Go Go.AL Go.ChangeShapes Go.WideShapes Go.ChangeAt Go.RowKit
set_option linter.unusedVariables false

theorem dc9 {ds : List DV} (h : Conf tyT 9 ds) : ∃ x : List UInt8, ds = (fun s => [.str s] : List UInt8 → List DV) x := by
  obtain ⟨n, rfl⟩ := conf_str h rfl
  exact ⟨n, rfl⟩
theorem dc3 {ds : List DV} (h : Conf tyT 3 ds) : ∃ x : Int, ds = (fun n => [.int .i64 n] : Int → List DV) x := by
  obtain ⟨n, rfl, _⟩ := conf_int h (k := .i64) rfl
  exact ⟨n, rfl⟩
theorem dc94 {ds : List DV} (h : Conf tyT 94 ds) : ∃ x : Field, ds = encF x := by
  obtain ⟨p0, _, rfl, h0, p1, _, rfl, h1, rfl⟩ := conf_strct h (fs := [(0, 9), (1, 92)]) rfl
  obtain ⟨x0, rfl⟩ := dc9 h0
  obtain ⟨q0, _, rfl, k0, q1, _, rfl, k1, rfl⟩ := conf_strct h1 (fs := [(0, 3), (1, 3)]) rfl
  obtain ⟨x1, rfl⟩ := dc3 k0
  obtain ⟨x2, rfl⟩ := dc3 k1
  exact ⟨⟨x0, x1, x2⟩, rfl⟩
theorem dc67 {ds : List DV} (h : Conf tyT 67 ds) : ∃ l : List (Field), ds = [.sl 3 (l.map encF) .no] := by
  obtain ⟨xs, rfl, hx⟩ := conf_slice h (e := 94) rfl
  obtain ⟨l, rfl⟩ := map_of (f := encF) xs fun x hx' => dc94 (hx x hx')
  exact ⟨l, rfl⟩
theorem dc58 {ds : List DV} (h : Conf tyT 58 ds) : ∃ l : List (List UInt8), ds = [.sl 1 (l.map encS) .no] := by
  obtain ⟨xs, rfl, hx⟩ := conf_slice h (e := 9) rfl
  obtain ⟨l, rfl⟩ := map_of (f := encS) xs fun x hx' => dc9 (hx x hx')
  exact ⟨l, rfl⟩

theorem own : ownKnob Try.prog.godebug = none := by kernel_rfl
theorem laidOut : laidOutB Try.prog = true := by kernel_rfl
theorem isClosed : closedT tyT [67, 94, 9, 92, 3, 58] = true := by kernel_rfl

theorem law_all : ∀ avs, ConfAll tyT [67, 58] avs → Gives Try.prog 12 avs (.d (.bool true)) := by
  intro avs h
  obtain _ | ⟨a0, _ | ⟨a1, _ | ⟨_, _⟩⟩⟩ := avs
  all_goals (first | (simp only [ConfAll] at h; done) | skip)
  all_goals (try (simp only [ConfAll, and_false] at h; done))
  obtain ⟨h0, h1, _⟩ := h
  obtain ⟨_, hb, _⟩ | ⟨c0, _, rfl, g0⟩ := h0
  · cases hb
  obtain ⟨x0, hx0⟩ := dc67 g0
  simp only [List.cons.injEq, and_true] at hx0
  subst hx0
  obtain ⟨_, hb, _⟩ | ⟨c1, _, rfl, g1⟩ := h1
  · cases hb
  obtain ⟨x1, hx1⟩ := dc58 g1
  simp only [List.cons.injEq, and_true] at hx1
  subst hx1
  exact xKnown x0 x1

set_option maxRecDepth 100000 in
theorem lifted (os : Os) (started : os.Started) (H : Type) (enc : TypeId × Value → H) :
    ReturnsInHanded {} Try.checked os 12 .any (Rows.fnExactKnownFieldsSpec.pre6 enc Try.prog Try.f12 Rows.fnExactKnownFieldsRow.domain false) (Rows.fnExactKnownFieldsSpec.post enc Try.prog Try.f12 false true false false) :=
  lifted_law (C := Try.checked) TT [67, 94, 9, 92, 3, 58] isClosed [67, 58] 4 laidOut (by rw [Try.params12]) (by kernel_rfl) (by kernel_rfl) (by kernel_rfl) Try.underlying4 rfl
    (fun ds h => by obtain _ | ⟨d0, _ | ⟨d1, _ | ⟨_, _⟩⟩⟩ := ds; all_goals first | rfl | (simp at h))
    law_all own started (by kernel_rfl) Try.func12
    (ChangeSpec.witness6 (enc := enc) (C := Try.checked) false ⟨#[], #[.slice none 0 0, .slice none 0 0], []⟩ 8 (by kernel_rfl) (by kernel_rfl) (by kernel_rfl) (by kernel_rfl))

theorem proved : Rows.FnExactKnownFieldsSaid :=
  OpenClaim.holds_of_wide 12 Try.f12 rfl rfl rfl rfl rfl rfl rfl ⟨rfl, rfl, rfl, rfl, rfl⟩ rfl rfl rfl rfl rfl (by kernel_rfl) Try.func12 joined
    (of_decide_eq_true (by kernel_rfl)) (by unfold Func.isWrapper; first | (rw [if_pos (by decide +kernel)]; kernel_rfl) | (rw [if_neg (by decide +kernel)]; exact ⟨rfl, rfl⟩))
    (fun os started H enc _ => lifted os started H enc)
#print axioms proved
end Go.Proofs.Ytndpddckomgdbaa
