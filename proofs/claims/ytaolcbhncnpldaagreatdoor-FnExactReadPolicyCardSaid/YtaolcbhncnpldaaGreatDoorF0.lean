/- Walks of functions of the cut by the abstract logic, and what they compute. Filled by a program of mine from a template. -/
import Derived.Test.YtaolcbhncnpldaaGreatDoorT1
import Derived.Test.YtaolcbhncnpldaaGreatDoorE1
import Derived.Laws.StructEq
import Derived.KernelRfl
namespace Go.Proofs.YtaolcbhncnpldaaGreatDoor
open Go Go.AL
set_option linter.unusedSimpArgs false
set_option linter.unusedVariables false

def encI (n : Int) : List DV := [.int .i64 n]
theorem er_encI (l : List Int) : erLL (l.map encI) = l.map encI := er_map (fun _ => rfl) l
attribute [go_sem] er_encI
abbrev LI (l : List Int) (o : Own := .no) : AV := .d (.sl 1 (l.map encI) o)

/-- Numbers that ascend in lo..hi. -/
def ascB : List Int → Int → Int → Bool
  | [], _, _ => true
  | n :: r, lo, hi => inB n lo hi && ascB r (n + 1) hi


def seen (l : List (List UInt8)) : List (DV × DV) := l.map fun n => (.str n, .bool true)
def encS (s : List UInt8) : List DV := [.str s]
theorem er_encS (l : List (List UInt8)) : erLL (l.map encS) = l.map encS := er_map (fun _ => rfl) l
attribute [go_sem] er_encS
abbrev LS (l : List (List UInt8)) (o : Own := .no) : AV := .d (.sl 1 (l.map encS) o)

/-- A field: its name, and its value's kind and number. -/
structure Field where
  name : List UInt8
  kind : Int
  number : Int
deriving DecidableEq
def encF (f : Field) : List DV := [.str f.name, .int .i64 f.kind, .int .i64 f.number]
theorem er_encF (l : List Field) : erLL (l.map encF) = l.map encF := er_map (fun _ => rfl) l
attribute [go_sem] er_encF
abbrev LF (l : List Field) (o : Own := .no) : AV := .d (.sl 3 (l.map encF) o)


/-- A thing: its groups, and its fields. -/
structure Thing where
  groups : List Int
  fields : List Field
deriving DecidableEq
def encT (t : Thing) : List DV := [.sl 1 (t.groups.map encI) .no, .sl 3 (t.fields.map encF) .no]
theorem er_encT (l : List Thing) : erLL (l.map encT) = l.map encT := er_map (fun t => by simp [encT, erL, DV.er, er_encI, er_encF]) l
attribute [go_sem] er_encT
abbrev LT (l : List Thing) (o : Own := .no) : AV := .d (.sl 2 (l.map encT) o)
/-- A request. -/
structure Request where
  who : Int
  act : Int
  what : Int
  fields : List Field
deriving DecidableEq
def encR (r : Request) : List DV := [.int .i64 r.who, .int .i64 r.act, .int .i64 r.what, .sl 3 (r.fields.map encF) .no]
theorem er_encR (l : List Request) : erLL (l.map encR) = l.map encR := er_map (fun t => by simp [encR, erL, DV.er, er_encF]) l
attribute [go_sem] er_encR
abbrev LQ (l : List Request) (o : Own := .no) : AV := .d (.sl 4 (l.map encR) o)

theorem eqokV (k k' n n' : Int) : EqOK Tryz.prog 119 [.int .i64 k, .int .i64 n] [.int .i64 k', .int .i64 n'] := by
  intro I τ vs us b w x y h1 h2 hc
  obtain ⟨_, v1, rfl, ⟨⟩, a1⟩ := repL_one h1
  obtain ⟨_, v2, rfl, ⟨⟩, a2⟩ := repL_one a1
  obtain rfl := repL_done a2
  obtain ⟨_, v1, rfl, ⟨⟩, b1⟩ := repL_one h2
  obtain ⟨_, v2, rfl, ⟨⟩, b2⟩ := repL_one b1
  obtain rfl := repL_done b2
  clear h1 h2 a1 a2 b1 b2
  refine ⟨run_eqGuard_agg _ _ _ _ _ _ _ (by kernel_rfl), run_eqGuard_agg _ _ _ _ _ _ _ (by kernel_rfl), ?_⟩
  simp only [cmpL, cmpD, Option.some.injEq] at hc
  subst hc
  have u3 := Tryz.underlying3
  simp only [Op.equal, Op.maxDepth]
  rw [show (10000 : Nat) = 9999 + 1 from rfl, run_equalIn_agg w 9999 119 _ _ (by kernel_rfl) (by kernel_rfl)]
  simp only [Program.fieldsOf, Tryz.underlying119]
  have a3 := Tryz.isAgg3
  have z3 := Tryz.sizeOf3
  go_simp
  by_cases q2 : k = k' <;> by_cases q3 : n = n' <;> simp [q2, q3]
theorem eqokV' (k k' n n' : Int) : EqOK Tryz.prog 119 [.int .i64 k, .int .i64 n] [.int .i64 k', .int .i64 n'] = True := eq_true (eqokV k k' n n')
attribute [go_sem] eqokV'
end Go.Proofs.YtaolcbhncnpldaaGreatDoor
