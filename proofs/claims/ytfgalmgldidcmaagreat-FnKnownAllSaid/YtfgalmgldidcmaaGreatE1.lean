/- Walks of functions of the cut by the abstract logic, and what they compute. Filled by a program of mine from a template. -/
import Derived.Test.YtfgalmgldidcmaaGreatT1
namespace Go.Proofs.YtfgalmgldidcmaaGreat
open Go Go.AL
set_option linter.unusedSimpArgs false
set_option linter.unusedVariables false

theorem er_map {α : Type} {f : α → List DV} (h : ∀ x, erL (f x) = f x) (l : List α) : erLL (l.map f) = l.map f := by
  rw [erLL_eq, List.map_map]; exact List.map_congr_left fun x _ => h x

noncomputable def dec (p : Prop) : Bool := @decide p (Classical.propDecidable p)
/-- An expression. -/
inductive Expr where
  | mk (kind number : Int) (name : List UInt8) (parts : List Expr)
def Expr.kind : Expr → Int
  | .mk k _ _ _ => k
def Expr.number : Expr → Int
  | .mk _ n _ _ => n
def Expr.name : Expr → List UInt8
  | .mk _ _ s _ => s
def Expr.parts : Expr → List Expr
  | .mk _ _ _ ps => ps
theorem Expr.eta (e : Expr) : Expr.mk e.kind e.number e.name e.parts = e := by cases e; rfl
theorem Expr.ind {p : Expr → Prop} (h : ∀ k n nm ps, (∀ x ∈ ps, p x) → p (.mk k n nm ps)) : ∀ e, p e
  | .mk k n nm ps => h k n nm ps fun x hx => Expr.ind h x
termination_by e => SizeOf.sizeOf e
decreasing_by
  have := List.sizeOf_lt_of_mem hx
  simp; omega

mutual
def encE : Expr → List DV
  | .mk k n nm ps => [.int .i64 k, .int .i64 n, .str nm, .sl 4 (encEs ps) .no]
def encEs : List Expr → List (List DV)
  | [] => []
  | e :: es => encE e :: encEs es
end
mutual
/-- How many expressions are in one. -/
def cntE : Expr → Nat
  | .mk _ _ _ ps => 1 + cntEs ps
def cntEs : List Expr → Nat
  | [] => 0
  | e :: es => cntE e + cntEs es
end
mutual
/-- How large one is: names, and parts. -/
def wE : Expr → Nat
  | .mk _ _ nm ps => nm.length + wEs ps
def wEs : List Expr → Nat
  | [] => 0
  | e :: es => 1 + wE e + wEs es
end
theorem cntE_mk (k n : Int) (nm : List UInt8) (ps : List Expr) : cntE (.mk k n nm ps) = 1 + cntEs ps := by rw [cntE]
theorem cntEs_append (a b : List Expr) : cntEs (a ++ b) = cntEs a + cntEs b := by
  induction a with
  | nil => simp [cntEs]
  | cons x a ih => simp [cntEs, ih]; omega
theorem cntEs_mem {a : List Expr} {e : Expr} (h : e ∈ a) : cntE e ≤ cntEs a := by
  induction a with
  | nil => simp at h
  | cons x a ih =>
    simp only [cntEs]
    rcases List.mem_cons.1 h with rfl | h
    · omega
    · have := ih h; omega
theorem encEs_eq (l : List Expr) : encEs l = l.map encE := by induction l <;> simp_all [encEs]
theorem encE_mk (k n : Int) (nm : List UInt8) (ps : List Expr) : encE (.mk k n nm ps) = [.int .i64 k, .int .i64 n, .str nm, .sl 4 (ps.map encE) .no] := by rw [encE, encEs_eq]
theorem encE_eq (e : Expr) : encE e = [.int .i64 e.kind, .int .i64 e.number, .str e.name, .sl 4 (e.parts.map encE) .no] := by cases e; rw [encE_mk]; rfl
theorem er_encE1 (e : Expr) : erL (encE e) = encE e := by
  induction e using Expr.ind with
  | h k n nm ps ih =>
    rw [encE_mk]
    simp only [erL, DV.er, List.cons.injEq, DV.sl.injEq, true_and, and_true]
    rw [erLL_eq, List.map_map]
    exact List.map_congr_left fun x hx => ih x hx
theorem er_encE (l : List Expr) : erLL (l.map encE) = l.map encE := er_map er_encE1 l
attribute [go_sem] er_encE er_encE1 Expr.eta
theorem Expr.ext' {a b : Expr} : a = b ↔ a.kind = b.kind ∧ a.number = b.number ∧ a.name = b.name ∧ a.parts = b.parts := by
  cases a; cases b; simp [Expr.kind, Expr.number, Expr.name, Expr.parts]
abbrev LE (l : List Expr) (o : Own := .no) : AV := .d (.sl 4 (l.map encE) o)

def bodySame (fn : FuncId) : Prop := ∀ (a : Expr) (k n : Int) (nm : List UInt8) (ps : List Expr), Gives Tryz.prog fn [.agg [.int .i64 a.kind, .int .i64 a.number, .str a.name, .sl 4 (a.parts.map encE) .no], .agg [.int .i64 k, .int .i64 n, .str nm, .sl 4 (ps.map encE) .no]] (B (dec (a = Expr.mk k n nm ps)))
end Go.Proofs.YtfgalmgldidcmaaGreat
