/- The law FnExactReadFields as its contract tells it, lifted to the given statement: for every argument it returns true, and the arguments read as before. -/
import Derived.Test.YtnhfakijgbkadaaDoorTX
import Derived.Test.YtnhfakijgbkadaaDoorCoreE
import Derived.Test.YtnhfakijgbkadaaDoorCards
import Derived.Test.YtnhfakijgbkadaaDoorTie
import Derived.SevenTiedAt
import Derived.LaidHandle
import Derived.Shelf.Vars
import Derived.Test.YtnhfakijgbkadaaDoorRows
import Derived.Test.YtnhfakijgbkadaaDoorJFnExactReadFields
namespace Go.Proofs.YtnhfakijgbkadaaDoor
open Go Go.AL Go.ChangeShapes Go.WideShapes Go.ChangeAt Go.RowKit
set_option linter.unusedVariables false

theorem dc9 {ds : List DV} (h : Conf tyT 9 ds) : ∃ x : List UInt8, ds = (fun s => [.str s] : List UInt8 → List DV) x := by
  obtain ⟨n, rfl⟩ := conf_str h rfl
  exact ⟨n, rfl⟩

theorem own : ownKnob Tryd.prog.godebug = none := by kernel_rfl
theorem laidOut : laidOutB Tryd.prog = true := by kernel_rfl
theorem isClosed : closedT tyT [9] = true := by kernel_rfl

theorem law_all : ∀ avs, ConfAll tyT [9] avs → Gives Tryd.prog 6 avs (.d (.bool true)) := by
  intro avs h
  obtain _ | ⟨a0, _ | ⟨_, _⟩⟩ := avs
  all_goals (first | (simp only [ConfAll] at h; done) | skip)
  all_goals (try (simp only [ConfAll, and_false] at h; done))
  obtain ⟨h0, _⟩ := h
  obtain ⟨_, hb, _⟩ | ⟨c0, _, rfl, g0⟩ := h0
  · cases hb
  obtain ⟨x0, hx0⟩ := dc9 g0
  simp only [List.cons.injEq, and_true] at hx0
  subst hx0
  exact xReadFields x0
theorem globOk : ∀ w : World, w.ShapedOpen Tryd.prog → laidMetH Tryd.prog Rows.fnExactReadFieldsRow.laid w → (default : Glob).ok w fun b => b < w.heap.size := fun w h _ => by
  obtain ⟨m, hm⟩ := cell_of_shapedOpen_int (P := Tryd.prog) (g := 0) (t := 3) (zero := #[.int .i64 0]) h (of_decide_eq_true (by kernel_rfl)) (by kernel_rfl) rfl (by kernel_rfl) (by kernel_rfl) Tryd.underlying3
  exact ⟨World.block_lt_of_cell? w ⟨0, 0, none⟩ hm, m, hm⟩
/-- A world whose listed variables hold what the row lists. -/
noncomputable def laidW (os : Os) : World := { World.holding Tryd.prog os ⟨#[], #[], []⟩ with heap := layV Tryd.prog Rows.fnExactReadFieldsRow.laid (World.holding Tryd.prog os ⟨#[], #[], []⟩).heap }
set_option maxRecDepth 1000000 in
theorem laid_met (os : Os) (args : Array Value) : laidMetH Tryd.prog Rows.fnExactReadFieldsRow.laid ((laidW os).forCall (fun _ _ => 0) ⟨#[], args, []⟩).memory :=
  laidMet_of_run' 8 (by kernel_rfl) (by kernel_rfl)
theorem witness_row (os : Os) {H : Type} (enc : TypeId × Value → H) :
    (OpenSpec.ofChange Rows.fnExactReadFieldsSpec).preRow enc Tryd.prog Tryd.f6 Rows.fnExactReadFieldsRow.domain false Rows.fnExactReadFieldsRow.laid ((laidW os).forCall (fun _ _ => 0) ⟨#[], #[.string ⟨#[]⟩], []⟩).memory #[.string ⟨#[]⟩] := by
  have hw : (DataW.whole enc Tryd.prog ((laidW os).forCall (fun _ _ => 0) ⟨#[], #[.string ⟨#[]⟩], []⟩).memory Tryd.f6.params.toList Rows.fnExactReadFieldsSpec.vars false (#[.string ⟨#[]⟩] : Array Value).toList 8).map (fun x => (x.1, x.2.1)) = some ([.lit (.string [])], []) := by kernel_rfl
  obtain ⟨⟨x1, x2, x3⟩, hx, hx1⟩ := Option.map_eq_some_iff.1 hw
  simp only [Prod.mk.injEq] at hx1
  obtain ⟨rfl, rfl⟩ := hx1
  exact OpenSpec.preRow_of_cond 8 hx (by kernel_rfl) (fun k hk => by cases hk) (by kernel_rfl) (laid_met os _)
set_option maxRecDepth 100000 in
theorem lifted (os : Os) (started : os.Started) (H : Type) (enc : TypeId × Value → H) :
    ReturnsInHanded {} Tryd.checked os 6 .any ((OpenSpec.ofChange Rows.fnExactReadFieldsSpec).preRow enc Tryd.prog Tryd.f6 Rows.fnExactReadFieldsRow.domain false Rows.fnExactReadFieldsRow.laid) (Rows.fnExactReadFieldsSpec.post enc Tryd.prog Tryd.f6 false true false false) :=
  lifted_row (C := Tryd.checked) TT [9] isClosed [9] 4 globOk laidOut (by rw [Tryd.params6]) (by kernel_rfl) (by kernel_rfl) (by kernel_rfl) Tryd.underlying4 rfl
    (fun ds h => by obtain _ | ⟨d0, _ | ⟨_, _⟩⟩ := ds; all_goals first | rfl | (simp at h))
    law_all own started (by kernel_rfl) Tryd.func6
    (witness_row_at (enc := enc) (C := Tryd.checked) false (laidW os) #[.string ⟨#[]⟩] rfl (by kernel_rfl) (by kernel_rfl) (by kernel_rfl) (witness_row os enc))
theorem row_holds : Rows.FnExactReadFieldsSaid :=
  OpenClaim.holds_of_wide 6 Tryd.f6 rfl rfl rfl rfl rfl rfl rfl ⟨rfl, rfl, rfl, rfl, rfl⟩ rfl rfl rfl rfl rfl (by kernel_rfl) Tryd.func6 joined
    (of_decide_eq_true (by kernel_rfl)) (by unfold Func.isWrapper; first | (rw [if_pos (by decide +kernel)]; kernel_rfl) | (rw [if_neg (by decide +kernel)]; exact ⟨rfl, rfl⟩))
    (fun os started H enc _ => by rw [OpenClaim.pre_eq_preRow]; exact lifted os started H enc)
/-- The row, its listed variables tied to the program's text. -/
theorem proved : Rows.FnExactReadFieldsCardSaid :=
  Claim7.holds_tied_plain_at .later [] [.data, .data, .data, .data, .pinned] true (true, "459b55188c7f2e9c2fa81b555c80ae0f44cb2055a0b41807155506239013ed8f") false row_holds (fun _ h => by cases h) (by kernel_rfl) (fun _ h => by cases h) fnExactReadFields_row_tie rfl ⟨rfl, rfl⟩ (by kernel_rfl) rfl
    (fun f fn hf hfn => by
      obtain rfl : 6 = f := Option.some.inj ((show Tryd.prog.funcNamed "loop.example/accesspolicies/laws.FnExactReadFields" = some 6 by kernel_rfl).symm.trans hf)
      obtain rfl : Tryd.f6 = fn := Option.some.inj (Tryd.func6.symm.trans hfn)
      refine ⟨by kernel_rfl, fun j t ht => ?_⟩
      rw [Tryd.params6] at ht
      rcases j with _ | j
      · obtain rfl : 9 = t := by simpa using ht
        kernel_rfl
      · simp at ht)
    (by kernel_rfl)
#print axioms proved
end Go.Proofs.YtnhfakijgbkadaaDoor
