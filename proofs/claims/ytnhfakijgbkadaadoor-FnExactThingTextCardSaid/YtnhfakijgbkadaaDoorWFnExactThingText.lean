/- The law FnExactThingText as its contract tells it, lifted to the given statement: for every argument it returns true, and the arguments read as before. -/
import Derived.Test.YtnhfakijgbkadaaDoorTI
import Derived.Test.YtnhfakijgbkadaaDoorCoreE
import Derived.Test.YtnhfakijgbkadaaDoorCards
import Derived.Test.YtnhfakijgbkadaaDoorTie
import Derived.SevenTiedAt
import Derived.LaidHandle
import Derived.Shelf.Vars
import Derived.Test.YtnhfakijgbkadaaDoorRows
import Derived.Test.YtnhfakijgbkadaaDoorJFnExactThingText
namespace Go.Proofs.YtnhfakijgbkadaaDoor
open Go Go.AL Go.ChangeShapes Go.WideShapes Go.ChangeAt Go.RowKit
set_option linter.unusedVariables false

theorem dc3 {ds : List DV} (h : Conf tyT 3 ds) : ∃ x : Int, ds = (fun n => [.int .i64 n] : Int → List DV) x := by
  obtain ⟨n, rfl, _⟩ := conf_int h (k := .i64) rfl
  exact ⟨n, rfl⟩
theorem dc73 {ds : List DV} (h : Conf tyT 73 ds) : ∃ l : List (Int), ds = [.sl 1 (l.map encI) .no] := by
  obtain ⟨xs, rfl, hx⟩ := conf_slice h (e := 3) rfl
  obtain ⟨l, rfl⟩ := map_of (f := encI) xs fun x hx' => dc3 (hx x hx')
  exact ⟨l, rfl⟩
theorem dc9 {ds : List DV} (h : Conf tyT 9 ds) : ∃ x : List UInt8, ds = (fun s => [.str s] : List UInt8 → List DV) x := by
  obtain ⟨n, rfl⟩ := conf_str h rfl
  exact ⟨n, rfl⟩
theorem dc49 {ds : List DV} (h : Conf tyT 49 ds) : ∃ x : Field, ds = encF x := by
  obtain ⟨p0, _, rfl, h0, p1, _, rfl, h1, rfl⟩ := conf_strct h (fs := [(0, 9), (1, 47)]) rfl
  obtain ⟨x0, rfl⟩ := dc9 h0
  obtain ⟨q0, _, rfl, k0, q1, _, rfl, k1, rfl⟩ := conf_strct h1 (fs := [(0, 3), (1, 3)]) rfl
  obtain ⟨x1, rfl⟩ := dc3 k0
  obtain ⟨x2, rfl⟩ := dc3 k1
  exact ⟨⟨x0, x1, x2⟩, rfl⟩
theorem dc22 {ds : List DV} (h : Conf tyT 22 ds) : ∃ l : List (Field), ds = [.sl 3 (l.map encF) .no] := by
  obtain ⟨xs, rfl, hx⟩ := conf_slice h (e := 49) rfl
  obtain ⟨l, rfl⟩ := map_of (f := encF) xs fun x hx' => dc49 (hx x hx')
  exact ⟨l, rfl⟩
theorem dc75 {ds : List DV} (h : Conf tyT 75 ds) : ∃ x : Thing, ds = encT x := by
  obtain ⟨p0, _, rfl, h0, p1, _, rfl, h1, rfl⟩ := conf_strct h (fs := [(0, 73), (1, 22)]) rfl
  obtain ⟨x0, rfl⟩ := dc73 h0
  obtain ⟨x1, rfl⟩ := dc22 h1
  exact ⟨⟨x0, x1⟩, rfl⟩
theorem dc38 {ds : List DV} (h : Conf tyT 38 ds) : ∃ l : List (Thing), ds = [.sl 2 (l.map encT) .no] := by
  obtain ⟨xs, rfl, hx⟩ := conf_slice h (e := 75) rfl
  obtain ⟨l, rfl⟩ := map_of (f := encT) xs fun x hx' => dc75 (hx x hx')
  exact ⟨l, rfl⟩

theorem own : ownKnob Tryd.prog.godebug = none := by kernel_rfl
theorem laidOut : laidOutB Tryd.prog = true := by kernel_rfl
theorem isClosed : closedT tyT [38, 75, 73, 3, 22, 49, 9, 47] = true := by kernel_rfl

theorem law_all : ∀ avs, ConfAll tyT [38, 3] avs → Gives Tryd.prog 7 avs (.d (.bool true)) := by
  intro avs h
  obtain _ | ⟨a0, _ | ⟨a1, _ | ⟨_, _⟩⟩⟩ := avs
  all_goals (first | (simp only [ConfAll] at h; done) | skip)
  all_goals (try (simp only [ConfAll, and_false] at h; done))
  obtain ⟨h0, h1, _⟩ := h
  obtain ⟨_, hb, _⟩ | ⟨c0, _, rfl, g0⟩ := h0
  · cases hb
  obtain ⟨x0, hx0⟩ := dc38 g0
  simp only [List.cons.injEq, and_true] at hx0
  subst hx0
  obtain ⟨_, hb, _⟩ | ⟨c1, _, rfl, g1⟩ := h1
  · cases hb
  obtain ⟨x1, hx1⟩ := dc3 g1
  simp only [List.cons.injEq, and_true] at hx1
  subst hx1
  exact xThingText x0 x1
theorem globOk : ∀ w : World, w.ShapedOpen Tryd.prog → laidMetH Tryd.prog Rows.fnExactThingTextRow.laid w → (default : Glob).ok w fun b => b < w.heap.size := fun w h _ => by
  obtain ⟨m, hm⟩ := cell_of_shapedOpen_int (P := Tryd.prog) (g := 0) (t := 3) (zero := #[.int .i64 0]) h (of_decide_eq_true (by kernel_rfl)) (by kernel_rfl) rfl (by kernel_rfl) (by kernel_rfl) Tryd.underlying3
  exact ⟨World.block_lt_of_cell? w ⟨0, 0, none⟩ hm, m, hm⟩
/-- A world whose listed variables hold what the row lists. -/
noncomputable def laidW (os : Os) : World := { World.holding Tryd.prog os ⟨#[], #[], []⟩ with heap := layV Tryd.prog Rows.fnExactThingTextRow.laid (World.holding Tryd.prog os ⟨#[], #[], []⟩).heap }
set_option maxRecDepth 1000000 in
theorem laid_met (os : Os) (args : Array Value) : laidMetH Tryd.prog Rows.fnExactThingTextRow.laid ((laidW os).forCall (fun _ _ => 0) ⟨#[], args, []⟩).memory :=
  laidMet_of_run' 8 (by kernel_rfl) (by kernel_rfl)
theorem witness_row (os : Os) {H : Type} (enc : TypeId × Value → H) :
    (OpenSpec.ofChange Rows.fnExactThingTextSpec).preRow enc Tryd.prog Tryd.f7 Rows.fnExactThingTextRow.domain false Rows.fnExactThingTextRow.laid ((laidW os).forCall (fun _ _ => 0) ⟨#[], #[.slice none 0 0, .int .i64 0], []⟩).memory #[.slice none 0 0, .int .i64 0] := by
  have hw : (DataW.whole enc Tryd.prog ((laidW os).forCall (fun _ _ => 0) ⟨#[], #[.slice none 0 0, .int .i64 0], []⟩).memory Tryd.f7.params.toList Rows.fnExactThingTextSpec.vars false (#[.slice none 0 0, .int .i64 0] : Array Value).toList 8).map (fun x => (x.1, x.2.1)) = some ([.nil, .lit (.int .i64 0)], []) := by kernel_rfl
  obtain ⟨⟨x1, x2, x3⟩, hx, hx1⟩ := Option.map_eq_some_iff.1 hw
  simp only [Prod.mk.injEq] at hx1
  obtain ⟨rfl, rfl⟩ := hx1
  exact OpenSpec.preRow_of_cond 8 hx (by kernel_rfl) (fun k hk => by cases hk) (by kernel_rfl) (laid_met os _)
set_option maxRecDepth 100000 in
theorem lifted (os : Os) (started : os.Started) (H : Type) (enc : TypeId × Value → H) :
    ReturnsInHanded {} Tryd.checked os 7 .any ((OpenSpec.ofChange Rows.fnExactThingTextSpec).preRow enc Tryd.prog Tryd.f7 Rows.fnExactThingTextRow.domain false Rows.fnExactThingTextRow.laid) (Rows.fnExactThingTextSpec.post enc Tryd.prog Tryd.f7 false true false false) :=
  lifted_row (C := Tryd.checked) TT [38, 75, 73, 3, 22, 49, 9, 47] isClosed [38, 3] 4 globOk laidOut (by rw [Tryd.params7]) (by kernel_rfl) (by kernel_rfl) (by kernel_rfl) Tryd.underlying4 rfl
    (fun ds h => by obtain _ | ⟨d0, _ | ⟨d1, _ | ⟨_, _⟩⟩⟩ := ds; all_goals first | rfl | (simp at h))
    law_all own started (by kernel_rfl) Tryd.func7
    (witness_row_at (enc := enc) (C := Tryd.checked) false (laidW os) #[.slice none 0 0, .int .i64 0] rfl (by kernel_rfl) (by kernel_rfl) (by kernel_rfl) (witness_row os enc))
theorem row_holds : Rows.FnExactThingTextSaid :=
  OpenClaim.holds_of_wide 7 Tryd.f7 rfl rfl rfl rfl rfl rfl rfl ⟨rfl, rfl, rfl, rfl, rfl⟩ rfl rfl rfl rfl rfl (by kernel_rfl) Tryd.func7 joined
    (of_decide_eq_true (by kernel_rfl)) (by unfold Func.isWrapper; first | (rw [if_pos (by decide +kernel)]; kernel_rfl) | (rw [if_neg (by decide +kernel)]; exact ⟨rfl, rfl⟩))
    (fun os started H enc _ => by rw [OpenClaim.pre_eq_preRow]; exact lifted os started H enc)
/-- The row, its listed variables tied to the program's text. -/
theorem proved : Rows.FnExactThingTextCardSaid :=
  Claim7.holds_tied_plain_at .later [] [.data, .data, .data] true (true, "459b55188c7f2e9c2fa81b555c80ae0f44cb2055a0b41807155506239013ed8f") false row_holds (fun _ h => by cases h) (by kernel_rfl) (fun _ h => by cases h) fnExactThingText_row_tie rfl ⟨rfl, rfl⟩ (by kernel_rfl) rfl
    (fun f fn hf hfn => by
      obtain rfl : 7 = f := Option.some.inj ((show Tryd.prog.funcNamed "loop.example/accesspolicies/laws.FnExactThingText" = some 7 by kernel_rfl).symm.trans hf)
      obtain rfl : Tryd.f7 = fn := Option.some.inj (Tryd.func7.symm.trans hfn)
      refine ⟨by kernel_rfl, fun j t ht => ?_⟩
      rw [Tryd.params7] at ht
      rcases j with _ | _ | j
      · obtain rfl : 38 = t := by simpa using ht
        kernel_rfl
      · obtain rfl : 3 = t := by simpa using ht
        kernel_rfl
      · simp at ht)
    (by kernel_rfl)
#print axioms proved
end Go.Proofs.YtnhfakijgbkadaaDoor
