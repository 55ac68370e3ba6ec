/- The law FnExactRoleCycle as its contract tells it, lifted to the given statement: for every argument it returns true, and the arguments read as before. -/
import Derived.Test.YtpoahajgaaoghaaT9
import Derived.Test.YtpoahajgaaoghaaRows
import Derived.Test.YtpoahajgaaoghaaJFnExactRoleCycle
namespace Go.Proofs.Ytpoahajgaaoghaa
open Go Go.AL Go.ChangeShapes Go.WideShapes Go.ChangeAt Go.RowKit
set_option linter.unusedVariables false

theorem dc9 {ds : List DV} (h : Conf tyT 9 ds) : ∃ x : List UInt8, ds = (fun s => [.str s] : List UInt8 → List DV) x := by
  obtain ⟨n, rfl⟩ := conf_str h rfl
  exact ⟨n, rfl⟩
theorem dc3 {ds : List DV} (h : Conf tyT 3 ds) : ∃ x : Int, ds = (fun n => [.int .i64 n] : Int → List DV) x := by
  obtain ⟨n, rfl, _⟩ := conf_int h (k := .i64) rfl
  exact ⟨n, rfl⟩
theorem dc27 {ds : List DV} (h : Conf tyT 27 ds) : ∃ l : List (Int), ds = [.sl 1 (l.map encI) .no] := by
  obtain ⟨xs, rfl, hx⟩ := conf_slice h (e := 3) rfl
  obtain ⟨l, rfl⟩ := map_of (f := encI) xs fun x hx' => dc3 (hx x hx')
  exact ⟨l, rfl⟩
theorem dc49 {ds : List DV} (h : Conf tyT 49 ds) : ∃ x : Role, ds = encRole x := by
  obtain ⟨p0, _, rfl, h0, p1, _, rfl, h1, p2, _, rfl, h2, rfl⟩ := conf_strct h (fs := [(0, 9), (1, 3), (2, 27)]) rfl
  obtain ⟨x0, rfl⟩ := dc9 h0
  obtain ⟨x1, rfl⟩ := dc3 h1
  obtain ⟨x2, rfl⟩ := dc27 h2
  exact ⟨⟨x0, x1, x2⟩, rfl⟩
theorem dc31 {ds : List DV} (h : Conf tyT 31 ds) : ∃ l : List (Role), ds = [.sl 3 (l.map encRole) .no] := by
  obtain ⟨xs, rfl, hx⟩ := conf_slice h (e := 49) rfl
  obtain ⟨l, rfl⟩ := map_of (f := encRole) xs fun x hx' => dc49 (hx x hx')
  exact ⟨l, rfl⟩

theorem own : ownKnob Try.prog.godebug = none := by kernel_rfl
theorem laidOut : laidOutB Try.prog = true := by kernel_rfl
theorem isClosed : closedT tyT [31, 49, 9, 3, 27] = true := by kernel_rfl

theorem law_all : ∀ avs, ConfAll tyT [31] avs → Gives Try.prog 6 avs (.d (.bool true)) := by
  intro avs h
  obtain _ | ⟨a0, _ | ⟨_, _⟩⟩ := avs
  all_goals (first | (simp only [ConfAll] at h; done) | skip)
  all_goals (try (simp only [ConfAll, and_false] at h; done))
  obtain ⟨h0, _⟩ := h
  obtain ⟨_, hb, _⟩ | ⟨c0, _, rfl, g0⟩ := h0
  · cases hb
  obtain ⟨x0, hx0⟩ := dc31 g0
  simp only [List.cons.injEq, and_true] at hx0
  subst hx0
  exact law_xcycle x0

set_option maxRecDepth 100000 in
theorem lifted (os : Os) (started : os.Started) (H : Type) (enc : TypeId × Value → H) :
    ReturnsInHanded {} Try.checked os 6 .any (Rows.fnExactRoleCycleSpec.pre6 enc Try.prog Try.f6 Rows.fnExactRoleCycleRow.domain false) (Rows.fnExactRoleCycleSpec.post enc Try.prog Try.f6 false true false false) :=
  lifted_law (C := Try.checked) TT [31, 49, 9, 3, 27] isClosed [31] 4 laidOut (by rw [Try.params6]) (by kernel_rfl) (by kernel_rfl) (by kernel_rfl) Try.underlying4 rfl
    (fun ds h => by obtain _ | ⟨d0, _ | ⟨_, _⟩⟩ := ds; all_goals first | rfl | (simp at h))
    law_all own started (by kernel_rfl) Try.func6
    (ChangeSpec.witness6 (enc := enc) (C := Try.checked) false ⟨#[], #[.slice none 0 0], []⟩ 8 (by kernel_rfl) (by kernel_rfl) (by kernel_rfl) (by kernel_rfl))

theorem proved : Rows.FnExactRoleCycleSaid :=
  OpenClaim.holds_of_wide 6 Try.f6 rfl rfl rfl rfl rfl rfl rfl ⟨rfl, rfl, rfl, rfl, rfl⟩ rfl rfl rfl rfl rfl (by kernel_rfl) Try.func6 joined
    (of_decide_eq_true (by kernel_rfl)) (by unfold Func.isWrapper; first | (rw [if_pos (by decide +kernel)]; kernel_rfl) | (rw [if_neg (by decide +kernel)]; exact ⟨rfl, rfl⟩))
    (fun os started H enc _ => lifted os started H enc)
#print axioms proved
end Go.Proofs.Ytpoahajgaaoghaa
