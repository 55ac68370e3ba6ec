/- The law FnExactReadPolicy as its contract tells it, lifted to the given statement: for every argument it returns true, and the arguments read as before. -/
import Derived.Test.YtaolcbhncnpldaaGreatDoorTRG
import Derived.Test.YtaolcbhncnpldaaGreatDoorCoreE
import Derived.Test.YtaolcbhncnpldaaGreatDoorCards
import Derived.Test.YtaolcbhncnpldaaGreatDoorTie
import Derived.SevenTiedAt
import Derived.LaidHandle
import Derived.Shelf.Vars
import Derived.Test.YtaolcbhncnpldaaGreatDoorRows
import Derived.Test.YtaolcbhncnpldaaGreatDoorJFnExactReadPolicy
namespace Go.Proofs.YtaolcbhncnpldaaGreatDoor
open Go Go.AL Go.ChangeShapes Go.WideShapes Go.ChangeAt Go.RowKit
set_option linter.unusedVariables false

theorem dc9 {ds : List DV} (h : Conf tyT 9 ds) : ∃ x : List UInt8, ds = (fun s => [.str s] : List UInt8 → List DV) x := by
  obtain ⟨n, rfl⟩ := conf_str h rfl
  exact ⟨n, rfl⟩

theorem own : ownKnob Tryz.prog.godebug = none := by kernel_rfl
theorem laidOut : laidOutB Tryz.prog = true := by kernel_rfl
theorem isClosed : closedT tyT [9] = true := by kernel_rfl

theorem law_all : ∀ avs, ConfAll tyT [9] avs → Gives Tryz.prog 4 avs (.d (.bool true)) := by
  intro avs h
  obtain _ | ⟨a0, _ | ⟨_, _⟩⟩ := avs
  all_goals (first | (simp only [ConfAll] at h; done) | skip)
  all_goals (try (simp only [ConfAll, and_false] at h; done))
  obtain ⟨h0, _⟩ := h
  obtain ⟨_, hb, _⟩ | ⟨c0, _, rfl, g0⟩ := h0
  · cases hb
  obtain ⟨x0, hx0⟩ := dc9 g0
  simp only [List.cons.injEq, and_true] at hx0
  subst hx0
  exact xReadP x0
theorem globOk : ∀ w : World, w.ShapedOpen Tryz.prog → laidMetH Tryz.prog Rows.fnExactReadPolicyRow.laid w → (default : Glob).ok w fun b => b < w.heap.size := fun w h hL => by
  have hL' : laidMet Tryz.prog Rows.fnExactReadPolicyRow.laid w := hL
  obtain ⟨m, hm⟩ := cell_of_shapedOpen_int (P := Tryz.prog) (g := 3) (t := 3) (zero := #[.int .i64 0]) h (of_decide_eq_true (by kernel_rfl)) (by kernel_rfl) rfl (by kernel_rfl) (by kernel_rfl) Tryz.underlying3
  obtain ⟨v1, c1, d1⟩ := cell_of_laid_iface (n := "strconv.ErrSyntax") (g := 1) hL' (.tail _ (.tail _ (.tail _ (.tail _ (.tail _ (.head _)))))) (by kernel_rfl) (by kernel_rfl) Tryz.underlying52
  obtain ⟨v2, c2, d2⟩ := cell_of_laid_iface (n := "strconv.ErrRange") (g := 2) hL' (.tail _ (.tail _ (.tail _ (.tail _ (.head _))))) (by kernel_rfl) (by kernel_rfl) Tryz.underlying52
  refine ⟨?_, ⟨World.block_lt_of_cell? w ⟨3, 0, none⟩ hm, m, hm⟩, ⟨World.block_lt_of_cell? w ⟨1, 0, none⟩ c1, v1, c1, d1⟩, ⟨World.block_lt_of_cell? w ⟨2, 0, none⟩ c2, v2, c2, d2⟩⟩
  exact mapG_of_laid (n := "loop.example/accesspolicies/impl.exprWords") (g := 0) hL' (.tail _ (.tail _ (.tail _ (.tail _ (.tail _ (.tail _ (.head _))))))) (by kernel_rfl) (by kernel_rfl) tWordsD (by kernel_rfl) (by kernel_rfl) exprTab (fun w => by kernel_rfl) (fun p hp => by
    simp only [exprTab, List.mem_cons, List.not_mem_nil, or_false] at hp
    rcases hp with rfl | rfl | rfl | rfl | rfl | rfl | rfl | rfl | rfl | rfl | rfl | rfl <;> exact ⟨rfl, rfl⟩)
/-- A world whose listed variables hold what the row lists. -/
noncomputable def laidW (os : Os) : World :=
  let N := (World.settled Tryz.prog os).heap.size
  let w0 := World.holding Tryz.prog os ⟨#[.cells #[.string ⟨#[105, 110, 118, 97, 108, 105, 100, 32, 115, 121, 110, 116, 97, 120]⟩] 130, .cells #[.string ⟨#[118, 97, 108, 117, 101, 32, 111, 117, 116, 32, 111, 102, 32, 114, 97, 110, 103, 101]⟩] 130, .map #[⟨.int .i64 4, .string ⟨#[119, 104, 111]⟩, 0⟩, ⟨.int .i64 5, .string ⟨#[119, 104, 97, 116]⟩, 1⟩, ⟨.int .i64 6, .string ⟨#[97, 99, 116]⟩, 2⟩, ⟨.int .i64 7, .string ⟨#[114, 101, 113, 117, 101, 115, 116]⟩, 3⟩, ⟨.int .i64 8, .string ⟨#[102, 105, 101, 108, 100]⟩, 4⟩, ⟨.int .i64 9, .string ⟨#[104, 97, 115]⟩, 5⟩, ⟨.int .i64 10, .string ⟨#[115, 97, 109, 101]⟩, 6⟩, ⟨.int .i64 11, .string ⟨#[108, 101, 115, 115]⟩, 7⟩, ⟨.int .i64 12, .string ⟨#[105, 110]⟩, 8⟩, ⟨.int .i64 13, .string ⟨#[110, 111, 116]⟩, 9⟩, ⟨.int .i64 14, .string ⟨#[97, 110, 100]⟩, 10⟩, ⟨.int .i64 15, .string ⟨#[111, 114]⟩, 11⟩] 12], #[], []⟩
  let put (h : Array Obj) (g : Nat) (cs : Array Value) : Array Obj := h.modify g fun
    | .cells _ t frozen => .cells cs t frozen
    | o => o
  { w0 with heap := put (put (put (layV Tryz.prog Rows.fnExactReadPolicyRow.laid w0.heap) 0 #[.map (some (N + 2))]) 1 #[.iface 128 (.pointer (some ⟨N, 0, none⟩))]) 2 #[.iface 128 (.pointer (some ⟨N + 1, 0, none⟩))] }
set_option maxRecDepth 1000000 in
theorem laid_met (os : Os) (args : Array Value) : laidMetH Tryz.prog Rows.fnExactReadPolicyRow.laid ((laidW os).forCall (fun _ _ => 0) ⟨#[], args, []⟩).memory :=
  laidMet_of_run' 8 (by kernel_rfl) (by kernel_rfl)
theorem witness_row (os : Os) {H : Type} (enc : TypeId × Value → H) :
    (OpenSpec.ofChange Rows.fnExactReadPolicySpec).preRow enc Tryz.prog Tryz.f4 Rows.fnExactReadPolicyRow.domain false Rows.fnExactReadPolicyRow.laid ((laidW os).forCall (fun _ _ => 0) ⟨#[], #[.string ⟨#[]⟩], []⟩).memory #[.string ⟨#[]⟩] := by
  have hw : (DataW.whole enc Tryz.prog ((laidW os).forCall (fun _ _ => 0) ⟨#[], #[.string ⟨#[]⟩], []⟩).memory Tryz.f4.params.toList Rows.fnExactReadPolicySpec.vars false (#[.string ⟨#[]⟩] : Array Value).toList 8).map (fun x => (x.1, x.2.1)) = some ([.lit (.string [])], [Rows.laid_loop_example_accesspolicies_impl_exprWords]) := by kernel_rfl
  obtain ⟨⟨x1, x2, x3⟩, hx, hx1⟩ := Option.map_eq_some_iff.1 hw
  simp only [Prod.mk.injEq] at hx1
  obtain ⟨rfl, rfl⟩ := hx1
  exact OpenSpec.preRow_of_cond 8 hx (by kernel_rfl) (fun k hk => by cases hk) (by kernel_rfl) (laid_met os _)
set_option maxRecDepth 100000 in
theorem lifted (os : Os) (started : os.Started) (H : Type) (enc : TypeId × Value → H) :
    ReturnsInHanded {} Tryz.checked os 4 .any ((OpenSpec.ofChange Rows.fnExactReadPolicySpec).preRow enc Tryz.prog Tryz.f4 Rows.fnExactReadPolicyRow.domain false Rows.fnExactReadPolicyRow.laid) (Rows.fnExactReadPolicySpec.post enc Tryz.prog Tryz.f4 false true false false) :=
  lifted_rowV (C := Tryz.checked) TT [9] isClosed [9] 4 globOk laidOut (by rw [Tryz.params4]) (by kernel_rfl) (by kernel_rfl) (by kernel_rfl) Tryz.underlying4 (by kernel_rfl)
    (fun ds gs h h' => by obtain _ | ⟨d0, _ | ⟨_, _⟩⟩ := ds; all_goals first | (simp at h; done) | skip; obtain _ | ⟨g0, _ | ⟨_, _⟩⟩ := gs; all_goals first | rfl | (simp [Rows.fnExactReadPolicySpec] at h'))
    law_all own started (by kernel_rfl) Tryz.func4
    (witness_row_atRef (enc := enc) (C := Tryz.checked) false (laidW os) #[.string ⟨#[]⟩] rfl (by kernel_rfl) (by kernel_rfl) (by kernel_rfl) (witness_row os enc))
theorem row_holds : Rows.FnExactReadPolicySaid :=
  OpenClaim.holds_of_wide 4 Tryz.f4 rfl rfl rfl rfl rfl rfl rfl ⟨rfl, rfl, rfl, rfl, rfl⟩ rfl rfl rfl rfl rfl (by kernel_rfl) Tryz.func4 joined
    (of_decide_eq_true (by kernel_rfl)) (by unfold Func.isWrapper; first | (rw [if_pos (by decide +kernel)]; kernel_rfl) | (rw [if_neg (by decide +kernel)]; exact ⟨rfl, rfl⟩))
    (fun os started H enc _ => by rw [OpenClaim.pre_eq_preRow]; exact lifted os started H enc)
/-- The row, its listed variables tied to the program's text. -/
theorem proved : Rows.FnExactReadPolicyCardSaid :=
  Claim7.holds_tied_plain_at .later [] [.data, .data, .data, .data, .sentinel, .sentinel, .mapped, .pinned] true (true, "3affeec02632eebb4b32549cee673ebd5d9fc40a82322a0a3aaec941658c67e4") true row_holds (fun _ h => by cases h) (by kernel_rfl) (fun _ h => by cases h) fnExactReadPolicy_row_tie rfl ⟨rfl, rfl⟩ (by kernel_rfl) rfl
    (fun f fn hf hfn => by
      obtain rfl : 4 = f := Option.some.inj ((show Tryz.prog.funcNamed "loop.example/accesspolicies/laws.FnExactReadPolicy" = some 4 by kernel_rfl).symm.trans hf)
      obtain rfl : Tryz.f4 = fn := Option.some.inj (Tryz.func4.symm.trans hfn)
      refine ⟨by kernel_rfl, fun j t ht => ?_⟩
      rw [Tryz.params4] at ht
      rcases j with _ | j
      · obtain rfl : 9 = t := by simpa using ht
        kernel_rfl
      · simp at ht)
    (by kernel_rfl)
#print axioms proved
end Go.Proofs.YtaolcbhncnpldaaGreatDoor
