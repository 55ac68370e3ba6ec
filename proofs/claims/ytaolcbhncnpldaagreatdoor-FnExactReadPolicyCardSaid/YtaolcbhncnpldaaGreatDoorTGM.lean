/- Walks of functions of the cut by the abstract logic, and what they compute. Filled by a program of mine from a template. -/
import Derived.Test.YtaolcbhncnpldaaGreatDoorTQL
import Derived.Test.YtaolcbhncnpldaaGreatDoorCoreE
import Derived.LaidMore
import Derived.WideKeyElems2
namespace Go.Proofs.YtaolcbhncnpldaaGreatDoor
open Go Go.AL Go.RowKit Go.WideElems
set_option linter.unusedSimpArgs false
set_option linter.unusedVariables false
/-! ### The map of words -/
theorem lookG_of_map {P : Program} {g T : Nat} {tab : List (Int × List UInt8)} (hG : ∀ (w : World) (S : Nat → Prop), (default : Glob).ok w S → MapG P g T tab w S) {k : Int} {s : List UInt8} (hp : (k, s) ∈ tab) (hs : s.length ≤ 9223372036854775807) : LookG P g T (.int .i64 k) (.str s) := fun w0 S h0 => by
  obtain ⟨hg, b, es, clock, hb, h1, h2, h3⟩ := hG w0 S h0
  refine ⟨.map (some b), fun w hw => ⟨by simpa [World.cell?, hw g hg] using h1, fun I τ v hv => ?_⟩⟩
  cases hv with
  | int _ _ => exact ⟨_, h3 _ hp w (by rw [hw b hb]; exact h2), fun _ _ => .str s hs⟩
theorem mapG_of_laid {P : Program} {w : World} {l : List (String × DataW Unit)} (hL : laidMet P l w) {n : String} {ds : List (Lit × DataW Unit)} {g : Nat} {ti k e : TypeId} (hm : (n, .map ds) ∈ l) (hg : P.globalNamed n = some g)
    (ht : (P.globals[g]?).map (·.type) = some ti) (hi : P.underlying ti = some (.map k e)) (hk : P.underlying k = some (.int .i64)) (he : P.underlying e = some .string) (tab : List (Int × List UInt8))
    (hz : ∀ w, (zeroValue e).run P w = .ok (.string .empty) w)
    (htab : ∀ p ∈ tab, (Lit.int .i64 p.1).wf = true ∧ (DataW.map ds).atKey (.int .i64 p.1) .nil = .lit (.string p.2)) : MapG P g ti tab w fun b => b < w.heap.size := by
  obtain ⟨ps, hv, _⟩ := hL
  obtain ⟨g', t', cs, fuel, p, h1, h2, h3, h4⟩ := laidVars_at hv n _ hm
  obtain rfl : g = g' := Option.some.inj (hg.symm.trans h1)
  obtain rfl : ti = t' := Option.some.inj (ht.symm.trans h2)
  rcases open_map hi h4 with ⟨_, hx⟩ | ⟨b, es, clock, m, rfl, hcs, hb, _, F, hx⟩
  · simp at hx
  simp only [Prod.mk.injEq] at hx
  have hcell : w.cell? ⟨g, 0, none⟩ = some (.map (some b)) := by
    have := World.var?_cell hg h3 0
    rw [Array.eq_one_of_toList hcs] at this
    simpa using this
  refine ⟨World.block_lt_of_cell? w ⟨g, 0, none⟩ hcell, b, es, clock, (Array.getElem?_eq_some_iff.1 hb).1, hcell, hb, fun p hp w' hw' => ?_⟩
  obtain ⟨hwf, hat⟩ := htab p hp
  rw [hx.1] at hat
  rcases Go.Maps.fit_look (w := w') false (Go.Maps.int_keyed hk) hi (hz w') hw' F (Go.Maps.keyOf_int_mk hk hwf) with ⟨_, _, h5⟩ | ⟨e0, y, _, _, h5, hR, h6, _⟩
  · rw [h5] at hat; cases hat
  · rw [h6] at hat
    obtain ⟨r, e1, e2, _⟩ := elemAt_string he hR
    rw [e2] at hat
    simp only [DataW.lit.injEq, Lit.string.injEq] at hat
    rw [h5, e1]
    have : r = ⟨p.2.toArray⟩ := by
      rw [← hat]
    rw [this]; rfl
theorem lookW {k : Int} (hk : 4 ≤ k ∧ k ≤ 15) : LookG Tryz.prog gWords tWords (.int .i64 k) (.str (wordT k)) := by
  refine lookG_of_map gWordsG ?_ (by have := wordT_len k; omega)
  obtain ⟨j, rfl⟩ : ∃ j : Fin 12, k = (j.val : Int) + 4 := ⟨⟨(k - 4).toNat, by omega⟩, by simp; omega⟩
  have : ∀ j : Fin 12, ((j.val : Int) + 4, wordT ((j.val : Int) + 4)) ∈ exprTab := by decide +kernel
  exact this j
end Go.Proofs.YtaolcbhncnpldaaGreatDoor
