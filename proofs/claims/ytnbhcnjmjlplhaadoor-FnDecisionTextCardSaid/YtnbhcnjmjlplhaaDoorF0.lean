/- Walks of functions of the cut by the abstract logic, and what they compute. Filled by a program of mine from a template. -/
import Derived.Test.YtnbhcnjmjlplhaaDoorT1
import Derived.Test.YtnbhcnjmjlplhaaDoorE1
import Derived.Laws.StructEq
import Derived.KernelRfl
namespace Go.Proofs.YtnbhcnjmjlplhaaDoor
open Go Go.AL
set_option linter.unusedSimpArgs false
set_option linter.unusedVariables false

def encI (n : Int) : List DV := [.int .i64 n]
theorem er_encI (l : List Int) : erLL (l.map encI) = l.map encI := er_map (fun _ => rfl) l
attribute [go_sem] er_encI
abbrev LI (l : List Int) (o : Own := .no) : AV := .d (.sl 1 (l.map encI) o)

/-- Numbers that ascend in lo..hi. -/
def ascB : List Int → Int → Int → Bool
  | [], _, _ => true
  | n :: r, lo, hi => inB n lo hi && ascB r (n + 1) hi


def seen (l : List (List UInt8)) : List (DV × DV) := l.map fun n => (.str n, .bool true)
def encS (s : List UInt8) : List DV := [.str s]
theorem er_encS (l : List (List UInt8)) : erLL (l.map encS) = l.map encS := er_map (fun _ => rfl) l
attribute [go_sem] er_encS
abbrev LS (l : List (List UInt8)) (o : Own := .no) : AV := .d (.sl 1 (l.map encS) o)

/-- A field: its name, and its value's kind and number. -/
structure Field where
  name : List UInt8
  kind : Int
  number : Int
deriving DecidableEq
def encF (f : Field) : List DV := [.str f.name, .int .i64 f.kind, .int .i64 f.number]
theorem er_encF (l : List Field) : erLL (l.map encF) = l.map encF := er_map (fun _ => rfl) l
attribute [go_sem] er_encF
abbrev LF (l : List Field) (o : Own := .no) : AV := .d (.sl 3 (l.map encF) o)


/-- A thing: its groups, and its fields. -/
structure Thing where
  groups : List Int
  fields : List Field
deriving DecidableEq
def encT (t : Thing) : List DV := [.sl 1 (t.groups.map encI) .no, .sl 3 (t.fields.map encF) .no]
theorem er_encT (l : List Thing) : erLL (l.map encT) = l.map encT := er_map (fun t => by simp [encT, erL, DV.er, er_encI, er_encF]) l
attribute [go_sem] er_encT
abbrev LT (l : List Thing) (o : Own := .no) : AV := .d (.sl 2 (l.map encT) o)
/-- A request. -/
structure Request where
  who : Int
  act : Int
  what : Int
  fields : List Field
deriving DecidableEq
def encR (r : Request) : List DV := [.int .i64 r.who, .int .i64 r.act, .int .i64 r.what, .sl 3 (r.fields.map encF) .no]
theorem er_encR (l : List Request) : erLL (l.map encR) = l.map encR := er_map (fun t => by simp [encR, erL, DV.er, er_encF]) l
attribute [go_sem] er_encR
abbrev LQ (l : List Request) (o : Own := .no) : AV := .d (.sl 4 (l.map encR) o)

end Go.Proofs.YtnbhcnjmjlplhaaDoor
