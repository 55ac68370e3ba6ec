/- The law FnDecisionText as its contract tells it, lifted to the given statement: for every argument it returns true, and the arguments read as before. -/
import Derived.Test.YtnbhcnjmjlplhaaDoorLDR
import Derived.Test.YtnbhcnjmjlplhaaDoorCoreE
import Derived.Test.YtnbhcnjmjlplhaaDoorCards
import Derived.Test.YtnbhcnjmjlplhaaDoorTie
import Derived.SevenTiedAt
import Derived.LaidHandle
import Derived.Shelf.Vars
import Derived.Test.YtnbhcnjmjlplhaaDoorRows
import Derived.Test.YtnbhcnjmjlplhaaDoorJFnDecisionText
namespace Go.Proofs.YtnbhcnjmjlplhaaDoor
open Go Go.AL Go.ChangeShapes Go.WideShapes Go.ChangeAt Go.RowKit
set_option linter.unusedVariables false

theorem dcode {ds : List DV} (h : Conf tyT 22 ds) : ∃ l : List Int, ds = [.sl 1 (encB l) .no] ∧ ∀ b ∈ l, 0 ≤ b ∧ b < 256 := by
  obtain ⟨xs, rfl, hx⟩ := conf_slice h (e := 5) rfl
  obtain ⟨l, rfl⟩ := map_of (f := fun n : Int => [DV.int .u8 n]) xs fun x hx' => by
    obtain ⟨n, rfl, _⟩ := conf_int (hx x hx') (k := .u8) rfl
    exact ⟨n, rfl⟩
  refine ⟨l, rfl, fun b hb => ?_⟩
  obtain ⟨n, hn, hw⟩ := conf_int (hx [DV.int .u8 b] (List.mem_map.2 ⟨b, hb, rfl⟩)) (k := .u8) rfl
  simp only [List.cons.injEq, DV.int.injEq, and_true, true_and] at hn
  subst hn
  simp only [Lit.wf, Bool.and_eq_true, decide_eq_true_eq] at hw
  have h1 : IntKind.u8.min = 0 := rfl
  have h2 : IntKind.u8.max = 255 := rfl
  omega

theorem own : ownKnob Tryd.prog.godebug = none := by kernel_rfl
theorem laidOut : laidOutB Tryd.prog = true := by kernel_rfl
theorem isClosed : closedT tyT [22, 5] = true := by kernel_rfl

theorem law_all : ∀ avs, ConfAll tyT [22] avs → Gives Tryd.prog 3 avs (.d (.bool true)) := by
  intro avs h
  obtain _ | ⟨a0, _ | ⟨_, _⟩⟩ := avs
  all_goals (first | (simp only [ConfAll] at h; done) | skip)
  all_goals (try (simp only [ConfAll, and_false] at h; done))
  obtain ⟨h0, _⟩ := h
  obtain ⟨_, hb, _⟩ | ⟨c0, _, rfl, g0⟩ := h0
  · cases hb
  obtain ⟨x0, hx0, hl0⟩ := dcode g0
  simp only [List.cons.injEq, and_true] at hx0
  subst hx0
  exact law_dec x0 hl0
theorem globOk : ∀ w : World, w.ShapedOpen Tryd.prog → laidMetH Tryd.prog Rows.fnDecisionTextRow.laid w → (default : Glob).ok w fun b => b < w.heap.size := fun _ _ _ => trivial
/-- A world whose listed variables hold what the row lists. -/
noncomputable def laidW (os : Os) : World := { World.holding Tryd.prog os ⟨#[], #[], []⟩ with heap := layV Tryd.prog Rows.fnDecisionTextRow.laid (World.holding Tryd.prog os ⟨#[], #[], []⟩).heap }
set_option maxRecDepth 1000000 in
theorem laid_met (os : Os) (args : Array Value) : laidMetH Tryd.prog Rows.fnDecisionTextRow.laid ((laidW os).forCall (fun _ _ => 0) ⟨#[], args, []⟩).memory :=
  laidMet_of_run' 8 (by kernel_rfl) (by kernel_rfl)
theorem witness_row (os : Os) {H : Type} (enc : TypeId × Value → H) :
    (OpenSpec.ofChange Rows.fnDecisionTextSpec).preRow enc Tryd.prog Tryd.f3 Rows.fnDecisionTextRow.domain false Rows.fnDecisionTextRow.laid ((laidW os).forCall (fun _ _ => 0) ⟨#[], #[.slice none 0 0], []⟩).memory #[.slice none 0 0] := by
  have hw : (DataW.whole enc Tryd.prog ((laidW os).forCall (fun _ _ => 0) ⟨#[], #[.slice none 0 0], []⟩).memory Tryd.f3.params.toList Rows.fnDecisionTextSpec.vars false (#[.slice none 0 0] : Array Value).toList 8).map (fun x => (x.1, x.2.1)) = some ([.nil], []) := by kernel_rfl
  obtain ⟨⟨x1, x2, x3⟩, hx, hx1⟩ := Option.map_eq_some_iff.1 hw
  simp only [Prod.mk.injEq] at hx1
  obtain ⟨rfl, rfl⟩ := hx1
  exact OpenSpec.preRow_of_cond 8 hx (by kernel_rfl) (fun k hk => by cases hk) (by kernel_rfl) (laid_met os _)
set_option maxRecDepth 100000 in
theorem lifted (os : Os) (started : os.Started) (H : Type) (enc : TypeId × Value → H) :
    ReturnsInHanded {} Tryd.checked os 3 .any ((OpenSpec.ofChange Rows.fnDecisionTextSpec).preRow enc Tryd.prog Tryd.f3 Rows.fnDecisionTextRow.domain false Rows.fnDecisionTextRow.laid) (Rows.fnDecisionTextSpec.post enc Tryd.prog Tryd.f3 false true false false) :=
  lifted_row (C := Tryd.checked) TT [22, 5] isClosed [22] 4 globOk laidOut (by rw [Tryd.params3]) (by kernel_rfl) (by kernel_rfl) (by kernel_rfl) Tryd.underlying4 rfl
    (fun ds h => by obtain _ | ⟨d0, _ | ⟨_, _⟩⟩ := ds; all_goals first | rfl | (simp at h))
    law_all own started (by kernel_rfl) Tryd.func3
    (witness_row_at (enc := enc) (C := Tryd.checked) false (laidW os) #[.slice none 0 0] rfl (by kernel_rfl) (by kernel_rfl) (by kernel_rfl) (witness_row os enc))
theorem row_holds : Rows.FnDecisionTextSaid :=
  OpenClaim.holds_of_wide 3 Tryd.f3 rfl rfl rfl rfl rfl rfl rfl ⟨rfl, rfl, rfl, rfl, rfl⟩ rfl rfl rfl rfl rfl (by kernel_rfl) Tryd.func3 joined
    (of_decide_eq_true (by kernel_rfl)) (by unfold Func.isWrapper; first | (rw [if_pos (by decide +kernel)]; kernel_rfl) | (rw [if_neg (by decide +kernel)]; exact ⟨rfl, rfl⟩))
    (fun os started H enc _ => by rw [OpenClaim.pre_eq_preRow]; exact lifted os started H enc)
/-- The row, its listed variables tied to the program's text. -/
theorem proved : Rows.FnDecisionTextCardSaid :=
  Claim7.holds_tied_plain_at .later [] [.data, .data, .data] true (true, "d64b34ebe21aec2295fb68a4c965fba8684d656a7037279e5f7a4e90afcc7293") false row_holds (fun _ h => by cases h) (by kernel_rfl) (fun _ h => by cases h) fnDecisionText_row_tie rfl ⟨rfl, rfl⟩ (by kernel_rfl) rfl
    (fun f fn hf hfn => by
      obtain rfl : 3 = f := Option.some.inj ((show Tryd.prog.funcNamed "loop.example/accesspolicies/laws.FnDecisionText" = some 3 by kernel_rfl).symm.trans hf)
      obtain rfl : Tryd.f3 = fn := Option.some.inj (Tryd.func3.symm.trans hfn)
      refine ⟨by kernel_rfl, fun j t ht => ?_⟩
      rw [Tryd.params3] at ht
      rcases j with _ | j
      · obtain rfl : 22 = t := by simpa using ht
        kernel_rfl
      · simp at ht)
    (by kernel_rfl)
#print axioms proved
end Go.Proofs.YtnbhcnjmjlplhaaDoor
