/- The law FnAddThing as its contract tells it, lifted to the given statement: for every argument it returns true, and the arguments read as before. -/
import Derived.Test.YtnhfakijgbkadaaGreatDoorTDZ
import Derived.Test.YtnhfakijgbkadaaGreatDoorCoreE
import Derived.Test.YtnhfakijgbkadaaGreatDoorCards
import Derived.Test.YtnhfakijgbkadaaGreatDoorTie
import Derived.SevenTiedAt
import Derived.LaidHandle
import Derived.Shelf.Vars
import Derived.Test.YtnhfakijgbkadaaGreatDoorRows
import Derived.Test.YtnhfakijgbkadaaGreatDoorJFnAddThing
namespace Go.Proofs.YtnhfakijgbkadaaGreatDoor
open Go Go.AL Go.ChangeShapes Go.WideShapes Go.ChangeAt Go.RowKit
set_option linter.unusedVariables false

theorem dcode {ds : List DV} (h : Conf tyT 22 ds) : ∃ l : List Int, ds = [.sl 1 (encB l) .no] ∧ ∀ b ∈ l, 0 ≤ b ∧ b < 256 := by
  obtain ⟨xs, rfl, hx⟩ := conf_slice h (e := 5) rfl
  obtain ⟨l, rfl⟩ := map_of (f := fun n : Int => [DV.int .u8 n]) xs fun x hx' => by
    obtain ⟨n, rfl, _⟩ := conf_int (hx x hx') (k := .u8) rfl
    exact ⟨n, rfl⟩
  refine ⟨l, rfl, fun b hb => ?_⟩
  obtain ⟨n, hn, hw⟩ := conf_int (hx [DV.int .u8 b] (List.mem_map.2 ⟨b, hb, rfl⟩)) (k := .u8) rfl
  simp only [List.cons.injEq, DV.int.injEq, and_true, true_and] at hn
  subst hn
  simp only [Lit.wf, Bool.and_eq_true, decide_eq_true_eq] at hw
  have h1 : IntKind.u8.min = 0 := rfl
  have h2 : IntKind.u8.max = 255 := rfl
  omega

theorem own : ownKnob Tryz.prog.godebug = none := by kernel_rfl
theorem laidOut : laidOutB Tryz.prog = true := by kernel_rfl
theorem isClosed : closedT tyT [22, 5] = true := by kernel_rfl

theorem law_all : ∀ avs, ConfAll tyT [22] avs → Gives Tryz.prog 4 avs (.d (.bool true)) := by
  intro avs h
  obtain _ | ⟨a0, _ | ⟨_, _⟩⟩ := avs
  all_goals (first | (simp only [ConfAll] at h; done) | skip)
  all_goals (try (simp only [ConfAll, and_false] at h; done))
  obtain ⟨h0, _⟩ := h
  obtain ⟨_, hb, _⟩ | ⟨c0, _, rfl, g0⟩ := h0
  · cases hb
  obtain ⟨x0, hx0, hl0⟩ := dcode g0
  simp only [List.cons.injEq, and_true] at hx0
  subst hx0
  exact law_at x0 hl0
theorem globOk : ∀ w : World, w.ShapedOpen Tryz.prog → laidMetH Tryz.prog Rows.fnAddThingRow.laid w → (default : Glob).ok w fun b => b < w.heap.size := fun w h hL => by
  have hL' : laidMet Tryz.prog Rows.fnAddThingRow.laid w := hL
  obtain ⟨m, hm⟩ := cell_of_shapedOpen_int (P := Tryz.prog) (g := 2) (t := 3) (zero := #[.int .i64 0]) h (of_decide_eq_true (by kernel_rfl)) (by kernel_rfl) rfl (by kernel_rfl) (by kernel_rfl) Tryz.underlying3
  obtain ⟨v0, c0, d0⟩ := cell_of_laid_iface (n := "strconv.ErrSyntax") (g := 0) hL' (.tail _ (.tail _ (.tail _ (.tail _ (.tail _ (.head _)))))) (by kernel_rfl) (by kernel_rfl) Tryz.underlying57
  obtain ⟨v1, c1, d1⟩ := cell_of_laid_iface (n := "strconv.ErrRange") (g := 1) hL' (.tail _ (.tail _ (.tail _ (.tail _ (.head _))))) (by kernel_rfl) (by kernel_rfl) Tryz.underlying57
  exact ⟨⟨World.block_lt_of_cell? w ⟨2, 0, none⟩ hm, m, hm⟩, ⟨World.block_lt_of_cell? w ⟨0, 0, none⟩ c0, v0, c0, d0⟩, ⟨World.block_lt_of_cell? w ⟨1, 0, none⟩ c1, v1, c1, d1⟩⟩
/-- A world whose listed variables hold what the row lists. -/
noncomputable def laidW (os : Os) : World :=
  let N := (World.settled Tryz.prog os).heap.size
  let w0 := World.holding Tryz.prog os ⟨#[.cells #[.string ⟨#[105, 110, 118, 97, 108, 105, 100, 32, 115, 121, 110, 116, 97, 120]⟩] 152, .cells #[.string ⟨#[118, 97, 108, 117, 101, 32, 111, 117, 116, 32, 111, 102, 32, 114, 97, 110, 103, 101]⟩] 152], #[], []⟩
  let put (h : Array Obj) (g : Nat) (cs : Array Value) : Array Obj := h.modify g fun
    | .cells _ t frozen => .cells cs t frozen
    | o => o
  { w0 with heap := put (put (layV Tryz.prog Rows.fnAddThingRow.laid w0.heap) 0 #[.iface 150 (.pointer (some ⟨N, 0, none⟩))]) 1 #[.iface 150 (.pointer (some ⟨N + 1, 0, none⟩))] }
set_option maxRecDepth 1000000 in
theorem laid_met (os : Os) (args : Array Value) : laidMetH Tryz.prog Rows.fnAddThingRow.laid ((laidW os).forCall (fun _ _ => 0) ⟨#[], args, []⟩).memory :=
  laidMet_of_run' 8 (by kernel_rfl) (by kernel_rfl)
theorem witness_row (os : Os) {H : Type} (enc : TypeId × Value → H) :
    (OpenSpec.ofChange Rows.fnAddThingSpec).preRow enc Tryz.prog Tryz.f4 Rows.fnAddThingRow.domain false Rows.fnAddThingRow.laid ((laidW os).forCall (fun _ _ => 0) ⟨#[], #[.slice none 0 0], []⟩).memory #[.slice none 0 0] := by
  have hw : (DataW.whole enc Tryz.prog ((laidW os).forCall (fun _ _ => 0) ⟨#[], #[.slice none 0 0], []⟩).memory Tryz.f4.params.toList Rows.fnAddThingSpec.vars false (#[.slice none 0 0] : Array Value).toList 8).map (fun x => (x.1, x.2.1)) = some ([.nil], []) := by kernel_rfl
  obtain ⟨⟨x1, x2, x3⟩, hx, hx1⟩ := Option.map_eq_some_iff.1 hw
  simp only [Prod.mk.injEq] at hx1
  obtain ⟨rfl, rfl⟩ := hx1
  exact OpenSpec.preRow_of_cond 8 hx (by kernel_rfl) (fun k hk => by cases hk) (by kernel_rfl) (laid_met os _)
set_option maxRecDepth 100000 in
theorem lifted (os : Os) (started : os.Started) (H : Type) (enc : TypeId × Value → H) :
    ReturnsInHanded {} Tryz.checked os 4 .any ((OpenSpec.ofChange Rows.fnAddThingSpec).preRow enc Tryz.prog Tryz.f4 Rows.fnAddThingRow.domain false Rows.fnAddThingRow.laid) (Rows.fnAddThingSpec.post enc Tryz.prog Tryz.f4 false true false false) :=
  lifted_row (C := Tryz.checked) TT [22, 5] isClosed [22] 4 globOk laidOut (by rw [Tryz.params4]) (by kernel_rfl) (by kernel_rfl) (by kernel_rfl) Tryz.underlying4 rfl
    (fun ds h => by obtain _ | ⟨d0, _ | ⟨_, _⟩⟩ := ds; all_goals first | rfl | (simp at h))
    law_all own started (by kernel_rfl) Tryz.func4
    (witness_row_atRef (enc := enc) (C := Tryz.checked) false (laidW os) #[.slice none 0 0] rfl (by kernel_rfl) (by kernel_rfl) (by kernel_rfl) (witness_row os enc))
theorem row_holds : Rows.FnAddThingSaid :=
  OpenClaim.holds_of_wide 4 Tryz.f4 rfl rfl rfl rfl rfl rfl rfl ⟨rfl, rfl, rfl, rfl, rfl⟩ rfl rfl rfl rfl rfl (by kernel_rfl) Tryz.func4 joined
    (of_decide_eq_true (by kernel_rfl)) (by unfold Func.isWrapper; first | (rw [if_pos (by decide +kernel)]; kernel_rfl) | (rw [if_neg (by decide +kernel)]; exact ⟨rfl, rfl⟩))
    (fun os started H enc _ => by rw [OpenClaim.pre_eq_preRow]; exact lifted os started H enc)
/-- The row, its listed variables tied to the program's text. -/
theorem proved : Rows.FnAddThingCardSaid :=
  Claim7.holds_tied_plain_at .later [] [.data, .data, .data, .data, .sentinel, .sentinel, .pinned] true (true, "f3d2f2848f6d93597fa0bce0e20ef5c0d900739d5eb4a5297ea1d78a75eea705") true row_holds (fun _ h => by cases h) (by kernel_rfl) (fun _ h => by cases h) fnAddThing_row_tie rfl ⟨rfl, rfl⟩ (by kernel_rfl) rfl
    (fun f fn hf hfn => by
      obtain rfl : 4 = f := Option.some.inj ((show Tryz.prog.funcNamed "loop.example/accesspolicies/laws.FnAddThing" = some 4 by kernel_rfl).symm.trans hf)
      obtain rfl : Tryz.f4 = fn := Option.some.inj (Tryz.func4.symm.trans hfn)
      refine ⟨by kernel_rfl, fun j t ht => ?_⟩
      rw [Tryz.params4] at ht
      rcases j with _ | j
      · obtain rfl : 22 = t := by simpa using ht
        kernel_rfl
      · simp at ht)
    (by kernel_rfl)
#print axioms proved
end Go.Proofs.YtnhfakijgbkadaaGreatDoor
