/- The law FnPushNot as its contract tells it, lifted to the given statement: for every argument it returns true, and the arguments read as before. -/
import Derived.Test.YtdbakncnhmphpaaYL
import Derived.Test.YtdbakncnhmphpaaRows
import Derived.Test.YtdbakncnhmphpaaJFnPushNot
namespace Go.Proofs.Ytdbakncnhmphpaa
open Go Go.AL Go.ChangeShapes Go.WideShapes Go.ChangeAt Go.RowKit
set_option linter.unusedVariables false

theorem dcode {ds : List DV} (h : Conf tyT 45 ds) : ∃ l : List Int, ds = [.sl 1 (encB l) .no] ∧ ∀ b ∈ l, 0 ≤ b ∧ b < 256 := by
  obtain ⟨xs, rfl, hx⟩ := conf_slice h (e := 5) rfl
  obtain ⟨l, rfl⟩ := map_of (f := fun n : Int => [DV.int .u8 n]) xs fun x hx' => by
    obtain ⟨n, rfl, _⟩ := conf_int (hx x hx') (k := .u8) rfl
    exact ⟨n, rfl⟩
  refine ⟨l, rfl, fun b hb => ?_⟩
  obtain ⟨n, hn, hw⟩ := conf_int (hx [DV.int .u8 b] (List.mem_map.2 ⟨b, hb, rfl⟩)) (k := .u8) rfl
  simp only [List.cons.injEq, DV.int.injEq, and_true, true_and] at hn
  subst hn
  simp only [Lit.wf, Bool.and_eq_true, decide_eq_true_eq] at hw
  have h1 : IntKind.u8.min = 0 := rfl
  have h2 : IntKind.u8.max = 255 := rfl
  omega

theorem own : ownKnob Try.prog.godebug = none := by kernel_rfl
theorem laidOut : laidOutB Try.prog = true := by kernel_rfl
theorem isClosed : closedT tyT [45, 5] = true := by kernel_rfl

theorem law_all : ∀ avs, ConfAll tyT [45, 45] avs → Gives Try.prog 4 avs (.d (.bool true)) := by
  intro avs h
  obtain _ | ⟨a0, _ | ⟨a1, _ | ⟨_, _⟩⟩⟩ := avs
  all_goals (first | (simp only [ConfAll] at h; done) | skip)
  all_goals (try (simp only [ConfAll, and_false] at h; done))
  obtain ⟨h0, h1, _⟩ := h
  obtain ⟨_, hb, _⟩ | ⟨c0, _, rfl, g0⟩ := h0
  · cases hb
  obtain ⟨x0, hx0, hl0⟩ := dcode g0
  simp only [List.cons.injEq, and_true] at hx0
  subst hx0
  obtain ⟨_, hb, _⟩ | ⟨c1, _, rfl, g1⟩ := h1
  · cases hb
  obtain ⟨x1, hx1, hl1⟩ := dcode g1
  simp only [List.cons.injEq, and_true] at hx1
  subst hx1
  exact law_push x0 hl0 x1 hl1

set_option maxRecDepth 100000 in
theorem lifted (os : Os) (started : os.Started) (H : Type) (enc : TypeId × Value → H) :
    ReturnsInHanded {} Try.checked os 4 .any (Rows.fnPushNotSpec.pre6 enc Try.prog Try.f4 Rows.fnPushNotRow.domain false) (Rows.fnPushNotSpec.post enc Try.prog Try.f4 false true false false) :=
  lifted_law (C := Try.checked) TT [45, 5] isClosed [45, 45] 4 laidOut (by rw [Try.params4]) (by kernel_rfl) (by kernel_rfl) (by kernel_rfl) Try.underlying4 rfl
    (fun ds h => by obtain _ | ⟨d0, _ | ⟨d1, _ | ⟨_, _⟩⟩⟩ := ds; all_goals first | rfl | (simp at h))
    law_all own started (by kernel_rfl) Try.func4
    (ChangeSpec.witness6 (enc := enc) (C := Try.checked) false ⟨#[], #[.slice none 0 0, .slice none 0 0], []⟩ 8 (by kernel_rfl) (by kernel_rfl) (by kernel_rfl) (by kernel_rfl))

theorem proved : Rows.FnPushNotSaid :=
  OpenClaim.holds_of_wide 4 Try.f4 rfl rfl rfl rfl rfl rfl rfl ⟨rfl, rfl, rfl, rfl, rfl⟩ rfl rfl rfl rfl rfl (by kernel_rfl) Try.func4 joined
    (of_decide_eq_true (by kernel_rfl)) (by unfold Func.isWrapper; first | (rw [if_pos (by decide +kernel)]; kernel_rfl) | (rw [if_neg (by decide +kernel)]; exact ⟨rfl, rfl⟩))
    (fun os started H enc _ => lifted os started H enc)
#print axioms proved
end Go.Proofs.Ytdbakncnhmphpaa
