/- The law FnExactAddThing as its contract tells it, lifted to the given statement: for every argument it returns true, and the arguments read as before. -/
import Derived.Test.YtnhfakijgbkadaaGreatDoorTXA
import Derived.Test.YtnhfakijgbkadaaGreatDoorCoreE
import Derived.Test.YtnhfakijgbkadaaGreatDoorCards
import Derived.Test.YtnhfakijgbkadaaGreatDoorTie
import Derived.SevenTiedAt
import Derived.LaidHandle
import Derived.Shelf.Vars
import Derived.Test.YtnhfakijgbkadaaGreatDoorRows
import Derived.Test.YtnhfakijgbkadaaGreatDoorJFnExactAddThing
namespace Go.Proofs.YtnhfakijgbkadaaGreatDoor
open Go Go.AL Go.ChangeShapes Go.WideShapes Go.ChangeAt Go.RowKit
set_option linter.unusedVariables false

theorem dc3 {ds : List DV} (h : Conf tyT 3 ds) : ∃ x : Int, ds = (fun n => [.int .i64 n] : Int → List DV) x := by
  obtain ⟨n, rfl, _⟩ := conf_int h (k := .i64) rfl
  exact ⟨n, rfl⟩
theorem dc42 {ds : List DV} (h : Conf tyT 42 ds) : ∃ l : List (Int), ds = [.sl 1 (l.map encI) .no] := by
  obtain ⟨xs, rfl, hx⟩ := conf_slice h (e := 3) rfl
  obtain ⟨l, rfl⟩ := map_of (f := encI) xs fun x hx' => dc3 (hx x hx')
  exact ⟨l, rfl⟩
theorem dc9 {ds : List DV} (h : Conf tyT 9 ds) : ∃ x : List UInt8, ds = (fun s => [.str s] : List UInt8 → List DV) x := by
  obtain ⟨n, rfl⟩ := conf_str h rfl
  exact ⟨n, rfl⟩
theorem dc123 {ds : List DV} (h : Conf tyT 123 ds) : ∃ x : Field, ds = encF x := by
  obtain ⟨p0, _, rfl, h0, p1, _, rfl, h1, rfl⟩ := conf_strct h (fs := [(0, 9), (1, 121)]) rfl
  obtain ⟨x0, rfl⟩ := dc9 h0
  obtain ⟨q0, _, rfl, k0, q1, _, rfl, k1, rfl⟩ := conf_strct h1 (fs := [(0, 3), (1, 3)]) rfl
  obtain ⟨x1, rfl⟩ := dc3 k0
  obtain ⟨x2, rfl⟩ := dc3 k1
  exact ⟨⟨x0, x1, x2⟩, rfl⟩
theorem dc78 {ds : List DV} (h : Conf tyT 78 ds) : ∃ l : List (Field), ds = [.sl 3 (l.map encF) .no] := by
  obtain ⟨xs, rfl, hx⟩ := conf_slice h (e := 123) rfl
  obtain ⟨l, rfl⟩ := map_of (f := encF) xs fun x hx' => dc123 (hx x hx')
  exact ⟨l, rfl⟩
theorem dc80 {ds : List DV} (h : Conf tyT 80 ds) : ∃ x : Thing, ds = encT x := by
  obtain ⟨p0, _, rfl, h0, p1, _, rfl, h1, rfl⟩ := conf_strct h (fs := [(0, 42), (1, 78)]) rfl
  obtain ⟨x0, rfl⟩ := dc42 h0
  obtain ⟨x1, rfl⟩ := dc78 h1
  exact ⟨⟨x0, x1⟩, rfl⟩
theorem dc35 {ds : List DV} (h : Conf tyT 35 ds) : ∃ l : List (Thing), ds = [.sl 2 (l.map encT) .no] := by
  obtain ⟨xs, rfl, hx⟩ := conf_slice h (e := 80) rfl
  obtain ⟨l, rfl⟩ := map_of (f := encT) xs fun x hx' => dc80 (hx x hx')
  exact ⟨l, rfl⟩

theorem own : ownKnob Tryz.prog.godebug = none := by kernel_rfl
theorem laidOut : laidOutB Tryz.prog = true := by kernel_rfl
theorem isClosed : closedT tyT [35, 80, 42, 3, 78, 123, 9, 121] = true := by kernel_rfl

theorem law_all : ∀ avs, ConfAll tyT [35, 9] avs → Gives Tryz.prog 5 avs (.d (.bool true)) := by
  intro avs h
  obtain _ | ⟨a0, _ | ⟨a1, _ | ⟨_, _⟩⟩⟩ := avs
  all_goals (first | (simp only [ConfAll] at h; done) | skip)
  all_goals (try (simp only [ConfAll, and_false] at h; done))
  obtain ⟨h0, h1, _⟩ := h
  obtain ⟨_, hb, _⟩ | ⟨c0, _, rfl, g0⟩ := h0
  · cases hb
  obtain ⟨x0, hx0⟩ := dc35 g0
  simp only [List.cons.injEq, and_true] at hx0
  subst hx0
  obtain ⟨_, hb, _⟩ | ⟨c1, _, rfl, g1⟩ := h1
  · cases hb
  obtain ⟨x1, hx1⟩ := dc9 g1
  simp only [List.cons.injEq, and_true] at hx1
  subst hx1
  exact xAddThing x0 x1
theorem globOk : ∀ w : World, w.ShapedOpen Tryz.prog → laidMetH Tryz.prog Rows.fnExactAddThingRow.laid w → (default : Glob).ok w fun b => b < w.heap.size := fun w h hL => by
  have hL' : laidMet Tryz.prog Rows.fnExactAddThingRow.laid w := hL
  obtain ⟨m, hm⟩ := cell_of_shapedOpen_int (P := Tryz.prog) (g := 2) (t := 3) (zero := #[.int .i64 0]) h (of_decide_eq_true (by kernel_rfl)) (by kernel_rfl) rfl (by kernel_rfl) (by kernel_rfl) Tryz.underlying3
  obtain ⟨v0, c0, d0⟩ := cell_of_laid_iface (n := "strconv.ErrSyntax") (g := 0) hL' (.tail _ (.tail _ (.tail _ (.tail _ (.tail _ (.head _)))))) (by kernel_rfl) (by kernel_rfl) Tryz.underlying57
  obtain ⟨v1, c1, d1⟩ := cell_of_laid_iface (n := "strconv.ErrRange") (g := 1) hL' (.tail _ (.tail _ (.tail _ (.tail _ (.head _))))) (by kernel_rfl) (by kernel_rfl) Tryz.underlying57
  exact ⟨⟨World.block_lt_of_cell? w ⟨2, 0, none⟩ hm, m, hm⟩, ⟨World.block_lt_of_cell? w ⟨0, 0, none⟩ c0, v0, c0, d0⟩, ⟨World.block_lt_of_cell? w ⟨1, 0, none⟩ c1, v1, c1, d1⟩⟩
/-- A world whose listed variables hold what the row lists. -/
noncomputable def laidW (os : Os) : World :=
  let N := (World.settled Tryz.prog os).heap.size
  let w0 := World.holding Tryz.prog os ⟨#[.cells #[.string ⟨#[105, 110, 118, 97, 108, 105, 100, 32, 115, 121, 110, 116, 97, 120]⟩] 152, .cells #[.string ⟨#[118, 97, 108, 117, 101, 32, 111, 117, 116, 32, 111, 102, 32, 114, 97, 110, 103, 101]⟩] 152], #[], []⟩
  let put (h : Array Obj) (g : Nat) (cs : Array Value) : Array Obj := h.modify g fun
    | .cells _ t frozen => .cells cs t frozen
    | o => o
  { w0 with heap := put (put (layV Tryz.prog Rows.fnExactAddThingRow.laid w0.heap) 0 #[.iface 150 (.pointer (some ⟨N, 0, none⟩))]) 1 #[.iface 150 (.pointer (some ⟨N + 1, 0, none⟩))] }
set_option maxRecDepth 1000000 in
theorem laid_met (os : Os) (args : Array Value) : laidMetH Tryz.prog Rows.fnExactAddThingRow.laid ((laidW os).forCall (fun _ _ => 0) ⟨#[], args, []⟩).memory :=
  laidMet_of_run' 8 (by kernel_rfl) (by kernel_rfl)
theorem witness_row (os : Os) {H : Type} (enc : TypeId × Value → H) :
    (OpenSpec.ofChange Rows.fnExactAddThingSpec).preRow enc Tryz.prog Tryz.f5 Rows.fnExactAddThingRow.domain false Rows.fnExactAddThingRow.laid ((laidW os).forCall (fun _ _ => 0) ⟨#[], #[.slice none 0 0, .string ⟨#[]⟩], []⟩).memory #[.slice none 0 0, .string ⟨#[]⟩] := by
  have hw : (DataW.whole enc Tryz.prog ((laidW os).forCall (fun _ _ => 0) ⟨#[], #[.slice none 0 0, .string ⟨#[]⟩], []⟩).memory Tryz.f5.params.toList Rows.fnExactAddThingSpec.vars false (#[.slice none 0 0, .string ⟨#[]⟩] : Array Value).toList 8).map (fun x => (x.1, x.2.1)) = some ([.nil, .lit (.string [])], []) := by kernel_rfl
  obtain ⟨⟨x1, x2, x3⟩, hx, hx1⟩ := Option.map_eq_some_iff.1 hw
  simp only [Prod.mk.injEq] at hx1
  obtain ⟨rfl, rfl⟩ := hx1
  exact OpenSpec.preRow_of_cond 8 hx (by kernel_rfl) (fun k hk => by cases hk) (by kernel_rfl) (laid_met os _)
set_option maxRecDepth 100000 in
theorem lifted (os : Os) (started : os.Started) (H : Type) (enc : TypeId × Value → H) :
    ReturnsInHanded {} Tryz.checked os 5 .any ((OpenSpec.ofChange Rows.fnExactAddThingSpec).preRow enc Tryz.prog Tryz.f5 Rows.fnExactAddThingRow.domain false Rows.fnExactAddThingRow.laid) (Rows.fnExactAddThingSpec.post enc Tryz.prog Tryz.f5 false true false false) :=
  lifted_row (C := Tryz.checked) TT [35, 80, 42, 3, 78, 123, 9, 121] isClosed [35, 9] 4 globOk laidOut (by rw [Tryz.params5]) (by kernel_rfl) (by kernel_rfl) (by kernel_rfl) Tryz.underlying4 rfl
    (fun ds h => by obtain _ | ⟨d0, _ | ⟨d1, _ | ⟨_, _⟩⟩⟩ := ds; all_goals first | rfl | (simp at h))
    law_all own started (by kernel_rfl) Tryz.func5
    (witness_row_atRef (enc := enc) (C := Tryz.checked) false (laidW os) #[.slice none 0 0, .string ⟨#[]⟩] rfl (by kernel_rfl) (by kernel_rfl) (by kernel_rfl) (witness_row os enc))
theorem row_holds : Rows.FnExactAddThingSaid :=
  OpenClaim.holds_of_wide 5 Tryz.f5 rfl rfl rfl rfl rfl rfl rfl ⟨rfl, rfl, rfl, rfl, rfl⟩ rfl rfl rfl rfl rfl (by kernel_rfl) Tryz.func5 joined
    (of_decide_eq_true (by kernel_rfl)) (by unfold Func.isWrapper; first | (rw [if_pos (by decide +kernel)]; kernel_rfl) | (rw [if_neg (by decide +kernel)]; exact ⟨rfl, rfl⟩))
    (fun os started H enc _ => by rw [OpenClaim.pre_eq_preRow]; exact lifted os started H enc)
/-- The row, its listed variables tied to the program's text. -/
theorem proved : Rows.FnExactAddThingCardSaid :=
  Claim7.holds_tied_plain_at .later [] [.data, .data, .data, .data, .sentinel, .sentinel, .pinned] true (true, "f3d2f2848f6d93597fa0bce0e20ef5c0d900739d5eb4a5297ea1d78a75eea705") true row_holds (fun _ h => by cases h) (by kernel_rfl) (fun _ h => by cases h) fnExactAddThing_row_tie rfl ⟨rfl, rfl⟩ (by kernel_rfl) rfl
    (fun f fn hf hfn => by
      obtain rfl : 5 = f := Option.some.inj ((show Tryz.prog.funcNamed "loop.example/accesspolicies/laws.FnExactAddThing" = some 5 by kernel_rfl).symm.trans hf)
      obtain rfl : Tryz.f5 = fn := Option.some.inj (Tryz.func5.symm.trans hfn)
      refine ⟨by kernel_rfl, fun j t ht => ?_⟩
      rw [Tryz.params5] at ht
      rcases j with _ | _ | j
      · obtain rfl : 35 = t := by simpa using ht
        kernel_rfl
      · obtain rfl : 9 = t := by simpa using ht
        kernel_rfl
      · simp at ht)
    (by kernel_rfl)
#print axioms proved
end Go.Proofs.YtnhfakijgbkadaaGreatDoor
