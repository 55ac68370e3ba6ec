/- The law FnKnownAll as its contract tells it, lifted to the given statement: for every argument it returns true, and the arguments read as before. -/
import Derived.Test.YtfgalmgldidcmaaGreatLK
import Derived.Test.YtfgalmgldidcmaaGreatRows
import Derived.Test.YtfgalmgldidcmaaGreatJFnKnownAll
namespace Go.Proofs.YtfgalmgldidcmaaGreat
open Go Go.AL Go.ChangeShapes Go.WideShapes Go.ChangeAt Go.RowKit
set_option linter.unusedVariables false

theorem dcode {ds : List DV} (h : Conf tyT 22 ds) : ∃ l : List Int, ds = [.sl 1 (encB l) .no] ∧ ∀ b ∈ l, 0 ≤ b ∧ b < 256 := by
  obtain ⟨xs, rfl, hx⟩ := conf_slice h (e := 5) rfl
  obtain ⟨l, rfl⟩ := map_of (f := fun n : Int => [DV.int .u8 n]) xs fun x hx' => by
    obtain ⟨n, rfl, _⟩ := conf_int (hx x hx') (k := .u8) rfl
    exact ⟨n, rfl⟩
  refine ⟨l, rfl, fun b hb => ?_⟩
  obtain ⟨n, hn, hw⟩ := conf_int (hx [DV.int .u8 b] (List.mem_map.2 ⟨b, hb, rfl⟩)) (k := .u8) rfl
  simp only [List.cons.injEq, DV.int.injEq, and_true, true_and] at hn
  subst hn
  simp only [Lit.wf, Bool.and_eq_true, decide_eq_true_eq] at hw
  have h1 : IntKind.u8.min = 0 := rfl
  have h2 : IntKind.u8.max = 255 := rfl
  omega

theorem own : ownKnob Tryz.prog.godebug = none := by kernel_rfl
theorem laidOut : laidOutB Tryz.prog = true := by kernel_rfl
theorem isClosed : closedT tyT [22, 5] = true := by kernel_rfl

theorem law_all : ∀ avs, ConfAll tyT [22] avs → Gives Tryz.prog 3 avs (.d (.bool true)) := by
  intro avs h
  obtain _ | ⟨a0, _ | ⟨_, _⟩⟩ := avs
  all_goals (first | (simp only [ConfAll] at h; done) | skip)
  all_goals (try (simp only [ConfAll, and_false] at h; done))
  obtain ⟨h0, _⟩ := h
  obtain ⟨_, hb, _⟩ | ⟨c0, _, rfl, g0⟩ := h0
  · cases hb
  obtain ⟨x0, hx0, hl0⟩ := dcode g0
  simp only [List.cons.injEq, and_true] at hx0
  subst hx0
  exact law_known x0 hl0

set_option maxRecDepth 100000 in
theorem lifted (os : Os) (started : os.Started) (H : Type) (enc : TypeId × Value → H) :
    ReturnsInHanded {} Tryz.checked os 3 .any (Rows.fnKnownAllSpec.pre6 enc Tryz.prog Tryz.f3 Rows.fnKnownAllRow.domain false) (Rows.fnKnownAllSpec.post enc Tryz.prog Tryz.f3 false true false false) :=
  lifted_law (C := Tryz.checked) TT [22, 5] isClosed [22] 4 (fun _ => trivial) laidOut (by rw [Tryz.params3]) (by kernel_rfl) (by kernel_rfl) (by kernel_rfl) Tryz.underlying4 rfl
    (fun ds h => by obtain _ | ⟨d0, _ | ⟨_, _⟩⟩ := ds; all_goals first | rfl | (simp at h))
    law_all own started (by kernel_rfl) Tryz.func3
    (ChangeSpec.witness6 (enc := enc) (C := Tryz.checked) false ⟨#[], #[.slice none 0 0], []⟩ 8 (by kernel_rfl) (by kernel_rfl) (by kernel_rfl) (by kernel_rfl))

theorem proved : Rows.FnKnownAllSaid :=
  OpenClaim.holds_of_wide 3 Tryz.f3 rfl rfl rfl rfl rfl rfl rfl ⟨rfl, rfl, rfl, rfl, rfl⟩ rfl rfl rfl rfl rfl (by kernel_rfl) Tryz.func3 joined
    (of_decide_eq_true (by kernel_rfl)) (by unfold Func.isWrapper; first | (rw [if_pos (by decide +kernel)]; kernel_rfl) | (rw [if_neg (by decide +kernel)]; exact ⟨rfl, rfl⟩))
    (fun os started H enc _ => lifted os started H enc)
#print axioms proved
end Go.Proofs.YtfgalmgldidcmaaGreat
