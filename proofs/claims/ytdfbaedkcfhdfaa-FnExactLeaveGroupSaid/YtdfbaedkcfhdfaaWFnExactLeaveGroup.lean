/- The law FnExactLeaveGroup as its contract tells it, lifted to the given statement: for every argument it returns true, and the arguments read as before. -/
import Derived.Test.YtdfbaedkcfhdfaaU9
import Derived.Test.YtdfbaedkcfhdfaaRows
import Derived.Test.YtdfbaedkcfhdfaaJFnExactLeaveGroup
namespace Go.Proofs.Ytdfbaedkcfhdfaa
open Go Go.AL Go.ChangeShapes Go.WideShapes Go.ChangeAt Go.RowKit
set_option linter.unusedVariables false

theorem dc3 {ds : List DV} (h : Conf tyT 3 ds) : ∃ x : Int, ds = (fun n => [.int .i64 n] : Int → List DV) x := by
  obtain ⟨n, rfl, _⟩ := conf_int h (k := .i64) rfl
  exact ⟨n, rfl⟩
theorem dc88 {ds : List DV} (h : Conf tyT 88 ds) : ∃ l : List (Int), ds = [.sl 1 (l.map encI) .no] := by
  obtain ⟨xs, rfl, hx⟩ := conf_slice h (e := 3) rfl
  obtain ⟨l, rfl⟩ := map_of (f := encI) xs fun x hx' => dc3 (hx x hx')
  exact ⟨l, rfl⟩
theorem dc9 {ds : List DV} (h : Conf tyT 9 ds) : ∃ x : List UInt8, ds = (fun s => [.str s] : List UInt8 → List DV) x := by
  obtain ⟨n, rfl⟩ := conf_str h rfl
  exact ⟨n, rfl⟩
theorem dc197 {ds : List DV} (h : Conf tyT 197 ds) : ∃ x : Field, ds = encF x := by
  obtain ⟨p0, _, rfl, h0, p1, _, rfl, h1, rfl⟩ := conf_strct h (fs := [(0, 9), (1, 195)]) rfl
  obtain ⟨x0, rfl⟩ := dc9 h0
  obtain ⟨q0, _, rfl, k0, q1, _, rfl, k1, rfl⟩ := conf_strct h1 (fs := [(0, 3), (1, 3)]) rfl
  obtain ⟨x1, rfl⟩ := dc3 k0
  obtain ⟨x2, rfl⟩ := dc3 k1
  exact ⟨⟨x0, x1, x2⟩, rfl⟩
theorem dc102 {ds : List DV} (h : Conf tyT 102 ds) : ∃ l : List (Field), ds = [.sl 3 (l.map encF) .no] := by
  obtain ⟨xs, rfl, hx⟩ := conf_slice h (e := 197) rfl
  obtain ⟨l, rfl⟩ := map_of (f := encF) xs fun x hx' => dc197 (hx x hx')
  exact ⟨l, rfl⟩
theorem dc104 {ds : List DV} (h : Conf tyT 104 ds) : ∃ x : Thing, ds = encT x := by
  obtain ⟨p0, _, rfl, h0, p1, _, rfl, h1, rfl⟩ := conf_strct h (fs := [(0, 88), (1, 102)]) rfl
  obtain ⟨x0, rfl⟩ := dc88 h0
  obtain ⟨x1, rfl⟩ := dc102 h1
  exact ⟨⟨x0, x1⟩, rfl⟩
theorem dc33 {ds : List DV} (h : Conf tyT 33 ds) : ∃ l : List (Thing), ds = [.sl 2 (l.map encT) .no] := by
  obtain ⟨xs, rfl, hx⟩ := conf_slice h (e := 104) rfl
  obtain ⟨l, rfl⟩ := map_of (f := encT) xs fun x hx' => dc104 (hx x hx')
  exact ⟨l, rfl⟩

theorem own : ownKnob Try.prog.godebug = none := by kernel_rfl
theorem laidOut : laidOutB Try.prog = true := by kernel_rfl
theorem isClosed : closedT tyT [33, 104, 88, 3, 102, 197, 9, 195] = true := by kernel_rfl

theorem law_all : ∀ avs, ConfAll tyT [33, 3, 3] avs → Gives Try.prog 4 avs (.d (.bool true)) := by
  intro avs h
  obtain _ | ⟨a0, _ | ⟨a1, _ | ⟨a2, _ | ⟨_, _⟩⟩⟩⟩ := avs
  all_goals (first | (simp only [ConfAll] at h; done) | skip)
  all_goals (try (simp only [ConfAll, and_false] at h; done))
  obtain ⟨h0, h1, h2, _⟩ := h
  obtain ⟨_, hb, _⟩ | ⟨c0, _, rfl, g0⟩ := h0
  · cases hb
  obtain ⟨x0, hx0⟩ := dc33 g0
  simp only [List.cons.injEq, and_true] at hx0
  subst hx0
  obtain ⟨_, hb, _⟩ | ⟨c1, _, rfl, g1⟩ := h1
  · cases hb
  obtain ⟨x1, hx1⟩ := dc3 g1
  simp only [List.cons.injEq, and_true] at hx1
  subst hx1
  obtain ⟨_, hb, _⟩ | ⟨c2, _, rfl, g2⟩ := h2
  · cases hb
  obtain ⟨x2, hx2⟩ := dc3 g2
  simp only [List.cons.injEq, and_true] at hx2
  subst hx2
  exact xLeave x0 x1 x2

set_option maxRecDepth 100000 in
theorem lifted (os : Os) (started : os.Started) (H : Type) (enc : TypeId × Value → H) :
    ReturnsInHanded {} Try.checked os 4 .any (Rows.fnExactLeaveGroupSpec.pre6 enc Try.prog Try.f4 Rows.fnExactLeaveGroupRow.domain false) (Rows.fnExactLeaveGroupSpec.post enc Try.prog Try.f4 false true false false) :=
  lifted_law (C := Try.checked) TT [33, 104, 88, 3, 102, 197, 9, 195] isClosed [33, 3, 3] 4 laidOut (by rw [Try.params4]) (by kernel_rfl) (by kernel_rfl) (by kernel_rfl) Try.underlying4 rfl
    (fun ds h => by obtain _ | ⟨d0, _ | ⟨d1, _ | ⟨d2, _ | ⟨_, _⟩⟩⟩⟩ := ds; all_goals first | rfl | (simp at h))
    law_all own started (by kernel_rfl) Try.func4
    (ChangeSpec.witness6 (enc := enc) (C := Try.checked) false ⟨#[], #[.slice none 0 0, .int .i64 0, .int .i64 0], []⟩ 8 (by kernel_rfl) (by kernel_rfl) (by kernel_rfl) (by kernel_rfl))

theorem proved : Rows.FnExactLeaveGroupSaid :=
  OpenClaim.holds_of_wide 4 Try.f4 rfl rfl rfl rfl rfl rfl rfl ⟨rfl, rfl, rfl, rfl, rfl⟩ rfl rfl rfl rfl rfl (by kernel_rfl) Try.func4 joined
    (of_decide_eq_true (by kernel_rfl)) (by unfold Func.isWrapper; first | (rw [if_pos (by decide +kernel)]; kernel_rfl) | (rw [if_neg (by decide +kernel)]; exact ⟨rfl, rfl⟩))
    (fun os started H enc _ => lifted os started H enc)
#print axioms proved
end Go.Proofs.Ytdfbaedkcfhdfaa
