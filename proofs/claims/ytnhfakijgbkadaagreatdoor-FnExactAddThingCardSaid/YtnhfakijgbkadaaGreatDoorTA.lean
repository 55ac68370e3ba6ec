/- Walks of functions of the cut by the abstract logic, and what they compute. Filled by a program of mine from a template. -/
import Derived.Test.YtnhfakijgbkadaaGreatDoorTH
import Derived.Test.YtnhfakijgbkadaaGreatDoorTE
import Derived.Lib.AtoiAllCases
namespace Go.Proofs.YtnhfakijgbkadaaGreatDoor
open Go Go.AL
set_option linter.unusedSimpArgs false
set_option linter.unusedVariables false
/-! ### Texts of things, read: plain law -/
theorem gT_nb {g : Int} (h : 0 ≤ g ∧ g ≤ 99) : ∀ b ∈ gT g, b ≠ 32 := by
  intro b hb
  rcases List.mem_cons.1 hb with rfl | hb
  · decide
  · have := decT_bytes h b hb
    rintro rfl; revert this; decide
structure OkV (n : Int) (gs : List Int) (fs : List Field) : Prop extends OkT n gs fs where
  nm : ∀ f ∈ fs, nameB f.name = true
  vl : ∀ f ∈ fs, valB f.kind f.number 100 = true
theorem okV_of {w : List Thing} (h : worldB w = true) {i : Nat} {x : Thing} (hx : w[i]? = some x) : OkV i x.groups x.fields :=
  ⟨okT_of h hx, fun f hf => (fieldsMem (world_get h hx).2 f hf).1, fun f hf => valB_up (by have := world_len h; omega) (fieldsMem (world_get h hx).2 f hf).2⟩
theorem words_thing {n : Int} {gs : List Int} {fs : List Field} (h : OkV n gs fs) : wordsT (thingT n gs fs) = wordsOf n gs fs := by
  rw [← join_thing]
  refine wordsT_join (by simp [wordsOf]) fun w hw b hb => ?_
  unfold wordsOf at hw
  rw [List.cons_append] at hw
  rcases List.mem_cons.1 hw with rfl | hw
  · rcases List.mem_cons.1 hb with rfl | hb
    · decide
    · have := decT_bytes ⟨h.n0, h.n1⟩ b hb
      rintro rfl; revert this; decide
  · rcases List.mem_append.1 hw with hw | hw
    · obtain ⟨g, hg, rfl⟩ := List.mem_map.1 hw
      exact gT_nb (h.g g hg) b hb
    · obtain ⟨f, hf, rfl⟩ := List.mem_map.1 hw
      exact fieldT_nb (h.nm f hf) b hb
/-- Does a word tell a group? -/
def isG (w : List UInt8) : Bool := decide (w ≠ []) && decide (w.getD 0 0 = 60)
theorem isG_g (g : Int) : isG (gT g) = true := by simp [isG, gT]
theorem isG_f {f : Field} (h : nameB f.name = true) : isG (fieldT f) = false := by
  obtain ⟨h1, h2, h3⟩ := nameB_bytes h
  obtain ⟨b, r, e⟩ := List.exists_cons_of_ne_nil (by intro e; rw [e] at h2; simp at h2 : f.name ≠ [])
  have := h1 b (by rw [e]; simp)
  simp only [isG, fieldT, e, List.cons_append, List.getD_cons_zero, Bool.and_eq_false_iff, decide_eq_false_iff_not]
  right
  rintro rfl; revert this; decide
/-- The groups that words tell, by a reader of numbers. -/
def grpW (rd : List UInt8 → Int) : List (List UInt8) → List Int
  | [] => []
  | w :: l => if isG w = true then rd (w.drop 1) :: grpW rd l else grpW rd l
noncomputable def fldW : List (List UInt8) → List Field
  | [] => []
  | w :: l => if isG w = true then fldW l else l21F w :: fldW l
theorem grpW_app (rd : List UInt8 → Int) : ∀ l m, grpW rd (l ++ m) = grpW rd l ++ grpW rd m
  | [], m => rfl
  | w :: l, m => by simp only [List.cons_append, grpW]; split <;> simp [grpW_app rd l m]
theorem fldW_app : ∀ l m, fldW (l ++ m) = fldW l ++ fldW m
  | [], m => rfl
  | w :: l, m => by simp only [List.cons_append, fldW]; split <;> simp [fldW_app l m]
theorem grpW_len (rd : List UInt8 → Int) : ∀ l, (grpW rd l).length ≤ l.length
  | [] => by simp [grpW]
  | w :: l => by have := grpW_len rd l; simp only [grpW]; split <;> simp <;> omega
theorem fldW_len : ∀ l, (fldW l).length ≤ l.length
  | [] => by simp [fldW]
  | w :: l => by have := fldW_len l; simp only [fldW]; split <;> simp <;> omega
theorem grpW_g {rd : List UInt8 → Int} (hr : ∀ n : Int, 0 ≤ n ∧ n ≤ 99 → rd (decT n) = n) : ∀ gs : List Int, (∀ g ∈ gs, 0 ≤ g ∧ g ≤ 99) → grpW rd (gs.map gT) = gs
  | [], _ => rfl
  | g :: gs, h => by
    rw [List.map_cons, grpW, if_pos (isG_g g), grpW_g hr gs fun x hx => h x (by simp [hx])]
    rw [show (gT g).drop 1 = decT g from rfl, hr g (h g (by simp))]
theorem grpW_f (rd : List UInt8 → Int) : ∀ fs : List Field, (∀ f ∈ fs, nameB f.name = true) → grpW rd (fs.map fieldT) = []
  | [], _ => rfl
  | f :: fs, h => by
    rw [List.map_cons, grpW, if_neg (by rw [isG_f (h f (by simp))]; simp), grpW_f rd fs fun x hx => h x (by simp [hx])]
theorem fldW_g : ∀ gs : List Int, fldW (gs.map gT) = []
  | [] => rfl
  | g :: gs => by rw [List.map_cons, fldW, if_pos (isG_g g), fldW_g gs]
theorem fldW_f : ∀ fs : List Field, (∀ f ∈ fs, nameB f.name = true ∧ valB f.kind f.number 100 = true) → fldW (fs.map fieldT) = fs
  | [], _ => rfl
  | f :: fs, h => by
    rw [List.map_cons, fldW, if_neg (by rw [isG_f (h f (by simp)).1]; simp), fldW_f fs fun x hx => h x (by simp [hx]), l21F_text (h f (by simp)).1 (h f (by simp)).2]
theorem read_thing {rd : List UInt8 → Int} (hr : ∀ n : Int, 0 ≤ n ∧ n ≤ 99 → rd (decT n) = n) {n : Int} {gs : List Int} {fs : List Field} (h : OkV n gs fs) :
    grpW rd ((wordsT (thingT n gs fs)).drop 1) = gs ∧ fldW ((wordsT (thingT n gs fs)).drop 1) = fs := by
  rw [words_thing h, wordsOf, List.cons_append, List.drop_one, List.tail_cons, grpW_app, fldW_app, grpW_g hr gs h.g, grpW_f rd fs h.nm, fldW_g, fldW_f fs fun f hf => ⟨h.nm f hf, h.vl f hf⟩]
  simp
/-! ### A world with one thing more -/
def lastT (w : List Thing) (t : Thing) (s : List UInt8) : Prop := worldB (w ++ [t]) = true ∧ thingT w.length t.groups t.fields = s
theorem lastT_get (w : List Thing) (t : Thing) : (w ++ [t])[w.length]? = some t := by simp
theorem lastT_ok {w : List Thing} {t : Thing} {s : List UInt8} (h : lastT w t s) : OkV w.length t.groups t.fields := okV_of h.1 (lastT_get w t)
theorem lastT_read {rd : List UInt8 → Int} (hr : ∀ n : Int, 0 ≤ n ∧ n ≤ 99 → rd (decT n) = n) {w : List Thing} {t : Thing} {s : List UInt8} (h : lastT w t s) : t = ⟨grpW rd ((wordsT s).drop 1), fldW ((wordsT s).drop 1)⟩ := by
  have := read_thing hr (lastT_ok h)
  rw [h.2] at this
  rw [this.1, this.2]
theorem lastT_text {w : List Thing} {t : Thing} (h : worldB (w ++ [t]) = true) : thingTextB (w ++ [t]) w.length = thingT w.length t.groups t.fields := by
  unfold thingTextB
  rw [if_pos (by rw [h]; simp [inB])]
  simp [List.getD]
open Classical in
noncomputable def addT (w : List Thing) (s : List UInt8) : Option (List Thing) := if h : worldB w = true ∧ ∃ t : Thing, lastT w t s then some (w ++ [h.2.choose]) else none
theorem addT_some {w x : List Thing} {s : List UInt8} (h : addT w s = some x) : worldB w = true ∧ ∃ t : Thing, lastT w t s ∧ x = w ++ [t] := by
  unfold addT at h
  split at h
  · rename_i hx
    simp only [Option.some.injEq] at h
    exact ⟨hx.1, _, hx.2.choose_spec, h.symm⟩
  · cases h
theorem addT_text {w : List Thing} {t : Thing} {s : List UInt8} (hw : worldB w = true) (h : lastT w t s) : addT w s = some (w ++ [t]) := by
  have hx : worldB w = true ∧ ∃ t : Thing, lastT w t s := ⟨hw, t, h⟩
  unfold addT
  rw [dif_pos hx, lastT_read (fun n h => l5N_text h) h, lastT_read (fun n h => l5N_text h) hx.2.choose_spec]
theorem addT_none {w : List Thing} {s : List UInt8} (h : ∀ t : Thing, ¬lastT w t s) : addT w s = none := by
  unfold addT
  rw [dif_neg]
  rintro ⟨_, t, ht⟩
  exact h t ht
theorem addT_bad {w : List Thing} {s : List UInt8} (h : worldB w = false) : addT w s = none := by
  unfold addT
  rw [dif_neg]
  rintro ⟨h1, _⟩
  rw [h] at h1; cases h1
/-- What both programs ask at the end. -/
theorem addT_end {rd : List UInt8 → Int} (hr : ∀ n : Int, 0 ≤ n ∧ n ≤ 99 → rd (decT n) = n) {w : List Thing} {s : List UInt8} (hw : worldB w = true) {t : Thing} (ht : t = ⟨grpW rd ((wordsT s).drop 1), fldW ((wordsT s).drop 1)⟩) :
    (worldB (w ++ [t]) = true → thingTextB (w ++ [t]) w.length = s → addT w s = some (w ++ [t])) ∧ (worldB (w ++ [t]) = true → thingTextB (w ++ [t]) w.length ≠ s → addT w s = none) ∧ (worldB (w ++ [t]) = false → addT w s = none) := by
  refine ⟨fun h1 h2 => addT_text hw ⟨h1, by rw [← lastT_text h1]; exact h2⟩, fun h1 h2 => addT_none fun u hu => ?_, fun h1 => addT_none fun u hu => ?_⟩
  · have := lastT_read hr hu
    rw [← ht] at this
    subst this
    exact h2 (by rw [lastT_text h1]; exact hu.2)
  · have := lastT_read hr hu
    rw [← ht] at this
    subst this
    rw [hu.1] at h1; cases h1
theorem addT_seven {w : List Thing} {s : List UInt8} (h : w.length = 7) : addT w s = none := addT_none fun t ht => by
  have := world_len ht.1
  simp at this; omega
/-! ### Numbers as the library reads them -/
def atoiW (s : List UInt8) : Int := match Lib.atoiAll s with
  | .ok v => v
  | _ => 0
def atoiB (s : List UInt8) : Bool := match Lib.atoiAll s with
  | .ok _ => true
  | _ => false
theorem atoi_d2 : ∀ a : Fin 100, (atoiB (d2 a.val) && decide (atoiW (d2 a.val) = (a.val : Int))) = true := by decide +kernel
theorem atoiW_text {n : Int} (h : 0 ≤ n ∧ n ≤ 99) : atoiW (decT n) = n := by
  have := atoi_d2 ⟨n.toNat, by omega⟩
  simp only [Bool.and_eq_true, decide_eq_true_eq] at this
  rw [decT, this.2]
  omega
theorem atoiB_text {n : Int} (h : 0 ≤ n ∧ n ≤ 99) : atoiB (decT n) = true := by
  have := atoi_d2 ⟨n.toNat, by omega⟩
  simp only [Bool.and_eq_true] at this
  exact this.1
/-- A word that the program takes. -/
noncomputable def okWd (w : List UInt8) : Bool := if isG w = true then atoiB (w.drop 1) else goodW w
theorem okWd_all {w : List Thing} {t : Thing} {s : List UInt8} (h : lastT w t s) : ∀ x ∈ (wordsT s).drop 1, okWd x = true := by
  have hv := lastT_ok h
  rw [← h.2, words_thing hv, wordsOf, List.cons_append, List.drop_one, List.tail_cons]
  intro x hx
  rcases List.mem_append.1 hx with hx | hx
  · obtain ⟨g, hg, rfl⟩ := List.mem_map.1 hx
    unfold okWd
    rw [if_pos (isG_g g)]
    exact atoiB_text (hv.g g hg)
  · obtain ⟨f, hf, rfl⟩ := List.mem_map.1 hx
    unfold okWd
    rw [if_neg (by rw [isG_f (hv.nm f hf)]; simp)]
    exact goodW_text (hv.nm f hf) (hv.vl f hf)
theorem addT_badW {w : List Thing} {s x : List UInt8} (hx : x ∈ (wordsT s).drop 1) (h : okWd x = false) : addT w s = none := addT_none fun t ht => by
  rw [okWd_all ht x hx] at h; cases h
end Go.Proofs.YtnhfakijgbkadaaGreatDoor
