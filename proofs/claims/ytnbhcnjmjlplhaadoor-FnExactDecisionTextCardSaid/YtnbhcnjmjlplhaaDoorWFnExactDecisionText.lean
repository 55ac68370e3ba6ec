/- The law FnExactDecisionText as its contract tells it, lifted to the given statement: for every argument it returns true, and the arguments read as before. -/
import Derived.Test.YtnbhcnjmjlplhaaDoorLXT
import Derived.Test.YtnbhcnjmjlplhaaDoorCoreE
import Derived.Test.YtnbhcnjmjlplhaaDoorCards
import Derived.Test.YtnbhcnjmjlplhaaDoorTie
import Derived.SevenTiedAt
import Derived.LaidHandle
import Derived.Shelf.Vars
import Derived.Test.YtnbhcnjmjlplhaaDoorRows
import Derived.Test.YtnbhcnjmjlplhaaDoorJFnExactDecisionText
namespace Go.Proofs.YtnbhcnjmjlplhaaDoor
open Go Go.AL Go.ChangeShapes Go.WideShapes Go.ChangeAt Go.RowKit
set_option linter.unusedVariables false

theorem dc4 {ds : List DV} (h : Conf tyT 4 ds) : ∃ x : Bool, ds = (fun b => [.bool b] : Bool → List DV) x := by
  obtain ⟨n, rfl⟩ := conf_bool h rfl
  exact ⟨n, rfl⟩
theorem dc3 {ds : List DV} (h : Conf tyT 3 ds) : ∃ x : Int, ds = (fun n => [.int .i64 n] : Int → List DV) x := by
  obtain ⟨n, rfl, _⟩ := conf_int h (k := .i64) rfl
  exact ⟨n, rfl⟩
theorem dc23 {ds : List DV} (h : Conf tyT 23 ds) : ∃ l : List (Int), ds = [.sl 1 (l.map encI) .no] := by
  obtain ⟨xs, rfl, hx⟩ := conf_slice h (e := 3) rfl
  obtain ⟨l, rfl⟩ := map_of (f := encI) xs fun x hx' => dc3 (hx x hx')
  exact ⟨l, rfl⟩
theorem dc30 {ds : List DV} (h : Conf tyT 30 ds) : ∃ x : Decision, ds = encDecision x := by
  obtain ⟨p0, _, rfl, h0, p1, _, rfl, h1, p2, _, rfl, h2, rfl⟩ := conf_strct h (fs := [(0, 4), (1, 23), (2, 23)]) rfl
  obtain ⟨x0, rfl⟩ := dc4 h0
  obtain ⟨x1, rfl⟩ := dc23 h1
  obtain ⟨x2, rfl⟩ := dc23 h2
  exact ⟨⟨x0, x1, x2⟩, rfl⟩

theorem own : ownKnob Tryd.prog.godebug = none := by kernel_rfl
theorem laidOut : laidOutB Tryd.prog = true := by kernel_rfl
theorem isClosed : closedT tyT [30, 4, 23, 3] = true := by kernel_rfl

theorem law_all : ∀ avs, ConfAll tyT [30] avs → Gives Tryd.prog 4 avs (.d (.bool true)) := by
  intro avs h
  obtain _ | ⟨a0, _ | ⟨_, _⟩⟩ := avs
  all_goals (first | (simp only [ConfAll] at h; done) | skip)
  all_goals (try (simp only [ConfAll, and_false] at h; done))
  obtain ⟨h0, _⟩ := h
  obtain ⟨d0, _, rfl, g0⟩ | ⟨_, hb, _⟩ := h0
  rotate_left
  · cases hb
  obtain ⟨x0, rfl⟩ := dc30 g0
  exact xDec x0.allow x0.why x0.faults
theorem globOk : ∀ w : World, w.ShapedOpen Tryd.prog → laidMetH Tryd.prog Rows.fnExactDecisionTextRow.laid w → (default : Glob).ok w fun b => b < w.heap.size := fun _ _ _ => trivial
/-- A world whose listed variables hold what the row lists. -/
noncomputable def laidW (os : Os) : World := { World.holding Tryd.prog os ⟨#[], #[], []⟩ with heap := layV Tryd.prog Rows.fnExactDecisionTextRow.laid (World.holding Tryd.prog os ⟨#[], #[], []⟩).heap }
set_option maxRecDepth 1000000 in
theorem laid_met (os : Os) (args : Array Value) : laidMetH Tryd.prog Rows.fnExactDecisionTextRow.laid ((laidW os).forCall (fun _ _ => 0) ⟨#[], args, []⟩).memory :=
  laidMet_of_run' 8 (by kernel_rfl) (by kernel_rfl)
theorem witness_row (os : Os) {H : Type} (enc : TypeId × Value → H) :
    (OpenSpec.ofChange Rows.fnExactDecisionTextSpec).preRow enc Tryd.prog Tryd.f4 Rows.fnExactDecisionTextRow.domain false Rows.fnExactDecisionTextRow.laid ((laidW os).forCall (fun _ _ => 0) ⟨#[], #[.agg #[.bool false, .slice none 0 0, .slice none 0 0]], []⟩).memory #[.agg #[.bool false, .slice none 0 0, .slice none 0 0]] := by
  have hw : (DataW.whole enc Tryd.prog ((laidW os).forCall (fun _ _ => 0) ⟨#[], #[.agg #[.bool false, .slice none 0 0, .slice none 0 0]], []⟩).memory Tryd.f4.params.toList Rows.fnExactDecisionTextSpec.vars false (#[.agg #[.bool false, .slice none 0 0, .slice none 0 0]] : Array Value).toList 8).map (fun x => (x.1, x.2.1)) = some ([.agg [.lit (.bool false), .nil, .nil]], []) := by kernel_rfl
  obtain ⟨⟨x1, x2, x3⟩, hx, hx1⟩ := Option.map_eq_some_iff.1 hw
  simp only [Prod.mk.injEq] at hx1
  obtain ⟨rfl, rfl⟩ := hx1
  exact OpenSpec.preRow_of_cond 8 hx (by kernel_rfl) (fun k hk => by cases hk) (by kernel_rfl) (laid_met os _)
set_option maxRecDepth 100000 in
theorem lifted (os : Os) (started : os.Started) (H : Type) (enc : TypeId × Value → H) :
    ReturnsInHanded {} Tryd.checked os 4 .any ((OpenSpec.ofChange Rows.fnExactDecisionTextSpec).preRow enc Tryd.prog Tryd.f4 Rows.fnExactDecisionTextRow.domain false Rows.fnExactDecisionTextRow.laid) (Rows.fnExactDecisionTextSpec.post enc Tryd.prog Tryd.f4 false true false false) :=
  lifted_row (C := Tryd.checked) TT [30, 4, 23, 3] isClosed [30] 4 globOk laidOut (by rw [Tryd.params4]) (by kernel_rfl) (by kernel_rfl) (by kernel_rfl) Tryd.underlying4 rfl
    (fun ds h => by obtain _ | ⟨d0, _ | ⟨_, _⟩⟩ := ds; all_goals first | rfl | (simp at h))
    law_all own started (by kernel_rfl) Tryd.func4
    (witness_row_at (enc := enc) (C := Tryd.checked) false (laidW os) #[.agg #[.bool false, .slice none 0 0, .slice none 0 0]] rfl (by kernel_rfl) (by kernel_rfl) (by kernel_rfl) (witness_row os enc))
theorem row_holds : Rows.FnExactDecisionTextSaid :=
  OpenClaim.holds_of_wide 4 Tryd.f4 rfl rfl rfl rfl rfl rfl rfl ⟨rfl, rfl, rfl, rfl, rfl⟩ rfl rfl rfl rfl rfl (by kernel_rfl) Tryd.func4 joined
    (of_decide_eq_true (by kernel_rfl)) (by unfold Func.isWrapper; first | (rw [if_pos (by decide +kernel)]; kernel_rfl) | (rw [if_neg (by decide +kernel)]; exact ⟨rfl, rfl⟩))
    (fun os started H enc _ => by rw [OpenClaim.pre_eq_preRow]; exact lifted os started H enc)
/-- The row, its listed variables tied to the program's text. -/
theorem proved : Rows.FnExactDecisionTextCardSaid :=
  Claim7.holds_tied_plain_at .later [] [.data, .data, .data] true (true, "d64b34ebe21aec2295fb68a4c965fba8684d656a7037279e5f7a4e90afcc7293") false row_holds (fun _ h => by cases h) (by kernel_rfl) (fun _ h => by cases h) fnExactDecisionText_row_tie rfl ⟨rfl, rfl⟩ (by kernel_rfl) rfl
    (fun f fn hf hfn => by
      obtain rfl : 4 = f := Option.some.inj ((show Tryd.prog.funcNamed "loop.example/accesspolicies/laws.FnExactDecisionText" = some 4 by kernel_rfl).symm.trans hf)
      obtain rfl : Tryd.f4 = fn := Option.some.inj (Tryd.func4.symm.trans hfn)
      refine ⟨by kernel_rfl, fun j t ht => ?_⟩
      rw [Tryd.params4] at ht
      rcases j with _ | j
      · obtain rfl : 30 = t := by simpa using ht
        kernel_rfl
      · simp at ht)
    (by kernel_rfl)
#print axioms proved
end Go.Proofs.YtnbhcnjmjlplhaaDoor
