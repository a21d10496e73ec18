/-
  No cell of these rows narrows 'for every input' (looked for: loops, veiled, ifaces, maps, wideKeys, modest, calm, conditions, laid).
  DERIVED. THE GIVEN ROWS OF THIS SEAT. 8 by the template 'for every input the law returns true; each argument reads behind the call as it read before'; 0 by the template 'total and deterministic' (their statements: YtjiajajifgfmjaaTotals.lean).
  GIVEN WITH THE SEED: the statements are not yours to turn. If you find one false, say at which input.
  Laid BY PROGRAM, IN A SANDBOX (cutbox-rows.mjs): the forced cells as the released guide's own fill.sh prints them over the translation 5cc43212c183a6e7… (all of the seat's roots in one cut). By AI agents, Wed Nov 11 2026. No macro, syntax, notation, axiom, sorry.
-/
import Derived.Test.YtjiajajifgfmjaaChecked
import GoSem.Claim
import GoSem.ClaimJoined
import GoSem.ClaimMapViews
import Derived.JoinedTies
import Derived.KernelRfl
namespace Go.Proofs.Ytjiajajifgfmjaa
/- THE CELL 'sum', in the pinned program and in every row, IS THE sha256 OF THE DUMP (.gsa) THAT YtjiajajifgfmjaaProg.lean LOADS. Nothing in Lean hashes anything: it is a label: what it is worth is what the hold of that sum in a sandbox is worth. -/
noncomputable def Try.pinned : Pinned := { name := "ytjiajajifgfmjaa", sum := "5cc43212c183a6e7d7d74b77ced60d9b35348be9c71b69cad1338d9583ef4410", checked := Try.checked }
namespace Rows
def none {H : Type} : Left H := { results := [], args := [] }

/-- 'bastionlaw13.Locks': WHATEVER THE INPUT: true; the input reads as it did. -/
def locksSpec : ChangeSpec := { name := "locks", fn := fun _ => fun
  | [d1, d2, d3, d4] => { results := [.lit (.bool true)], args := [d1, d2, d3, d4] }
  | _ => none }
def locksRow : OpenClaim := { program := "ytjiajajifgfmjaa", sum := "5cc43212c183a6e7d7d74b77ced60d9b35348be9c71b69cad1338d9583ef4410", func := "bastion/bastionlaw13.Locks", spec := "locks", apart := false }
def LocksSaid : Prop := locksRow.holds Try.pinned (OpenSpec.ofChange locksSpec)

/-- ITS FALSE NEIGHBOUR: 'it returns false'. Refute it at one input. -/
def locksWrong : ChangeSpec := { name := "locks", fn := fun _ => fun
  | [d1, d2, d3, d4] => { results := [.lit (.bool false)], args := [d1, d2, d3, d4] }
  | _ => none }
def LocksWrongFalsely : Prop := locksRow.holds Try.pinned (OpenSpec.ofChange locksWrong)

/-- 'bastionlaw13.LockWalks': WHATEVER THE INPUT: true; the input reads as it did. -/
def lockWalksSpec : ChangeSpec := { name := "lockWalks", fn := fun _ => fun
  | [d1, d2, d3] => { results := [.lit (.bool true)], args := [d1, d2, d3] }
  | _ => none }
def lockWalksRow : OpenClaim := { program := "ytjiajajifgfmjaa", sum := "5cc43212c183a6e7d7d74b77ced60d9b35348be9c71b69cad1338d9583ef4410", func := "bastion/bastionlaw13.LockWalks", spec := "lockWalks", apart := false }
def LockWalksSaid : Prop := lockWalksRow.holds Try.pinned (OpenSpec.ofChange lockWalksSpec)

/-- ITS FALSE NEIGHBOUR: 'it returns false'. Refute it at one input. -/
def lockWalksWrong : ChangeSpec := { name := "lockWalks", fn := fun _ => fun
  | [d1, d2, d3] => { results := [.lit (.bool false)], args := [d1, d2, d3] }
  | _ => none }
def LockWalksWrongFalsely : Prop := lockWalksRow.holds Try.pinned (OpenSpec.ofChange lockWalksWrong)

/-- 'bastionlaw13.LockForms': WHATEVER THE INPUT: true; the input reads as it did. -/
def lockFormsSpec : ChangeSpec := { name := "lockForms", fn := fun _ => fun
  | [d1, d2] => { results := [.lit (.bool true)], args := [d1, d2] }
  | _ => none }
def lockFormsRow : OpenClaim := { program := "ytjiajajifgfmjaa", sum := "5cc43212c183a6e7d7d74b77ced60d9b35348be9c71b69cad1338d9583ef4410", func := "bastion/bastionlaw13.LockForms", spec := "lockForms", apart := false }
def LockFormsSaid : Prop := lockFormsRow.holds Try.pinned (OpenSpec.ofChange lockFormsSpec)

/-- ITS FALSE NEIGHBOUR: 'it returns false'. Refute it at one input. -/
def lockFormsWrong : ChangeSpec := { name := "lockForms", fn := fun _ => fun
  | [d1, d2] => { results := [.lit (.bool false)], args := [d1, d2] }
  | _ => none }
def LockFormsWrongFalsely : Prop := lockFormsRow.holds Try.pinned (OpenSpec.ofChange lockFormsWrong)

/-- 'bastionlaw13.LockSpans': WHATEVER THE INPUT: true; the input reads as it did. -/
def lockSpansSpec : ChangeSpec := { name := "lockSpans", fn := fun _ => fun
  | [d1, d2, d3, d4] => { results := [.lit (.bool true)], args := [d1, d2, d3, d4] }
  | _ => none }
def lockSpansRow : OpenClaim := { program := "ytjiajajifgfmjaa", sum := "5cc43212c183a6e7d7d74b77ced60d9b35348be9c71b69cad1338d9583ef4410", func := "bastion/bastionlaw13.LockSpans", spec := "lockSpans", apart := false }
def LockSpansSaid : Prop := lockSpansRow.holds Try.pinned (OpenSpec.ofChange lockSpansSpec)

/-- ITS FALSE NEIGHBOUR: 'it returns false'. Refute it at one input. -/
def lockSpansWrong : ChangeSpec := { name := "lockSpans", fn := fun _ => fun
  | [d1, d2, d3, d4] => { results := [.lit (.bool false)], args := [d1, d2, d3, d4] }
  | _ => none }
def LockSpansWrongFalsely : Prop := lockSpansRow.holds Try.pinned (OpenSpec.ofChange lockSpansWrong)

/-- 'bastionlaw19.Meters': WHATEVER THE INPUT: true; the input reads as it did. -/
def metersSpec : ChangeSpec := { name := "meters", fn := fun _ => fun
  | [d1, d2, d3, d4, d5, d6, d7] => { results := [.lit (.bool true)], args := [d1, d2, d3, d4, d5, d6, d7] }
  | _ => none }
def metersRow : OpenClaim := { program := "ytjiajajifgfmjaa", sum := "5cc43212c183a6e7d7d74b77ced60d9b35348be9c71b69cad1338d9583ef4410", func := "bastion/bastionlaw19.Meters", spec := "meters", apart := false }
def MetersSaid : Prop := metersRow.holds Try.pinned (OpenSpec.ofChange metersSpec)

/-- ITS FALSE NEIGHBOUR: 'it returns false'. Refute it at one input. -/
def metersWrong : ChangeSpec := { name := "meters", fn := fun _ => fun
  | [d1, d2, d3, d4, d5, d6, d7] => { results := [.lit (.bool false)], args := [d1, d2, d3, d4, d5, d6, d7] }
  | _ => none }
def MetersWrongFalsely : Prop := metersRow.holds Try.pinned (OpenSpec.ofChange metersWrong)

/-- 'bastionlaw19.MeterWalks': WHATEVER THE INPUT: true; the input reads as it did. -/
def meterWalksSpec : ChangeSpec := { name := "meterWalks", fn := fun _ => fun
  | [d1, d2, d3, d4] => { results := [.lit (.bool true)], args := [d1, d2, d3, d4] }
  | _ => none }
def meterWalksRow : OpenClaim := { program := "ytjiajajifgfmjaa", sum := "5cc43212c183a6e7d7d74b77ced60d9b35348be9c71b69cad1338d9583ef4410", func := "bastion/bastionlaw19.MeterWalks", spec := "meterWalks", apart := false }
def MeterWalksSaid : Prop := meterWalksRow.holds Try.pinned (OpenSpec.ofChange meterWalksSpec)

/-- ITS FALSE NEIGHBOUR: 'it returns false'. Refute it at one input. -/
def meterWalksWrong : ChangeSpec := { name := "meterWalks", fn := fun _ => fun
  | [d1, d2, d3, d4] => { results := [.lit (.bool false)], args := [d1, d2, d3, d4] }
  | _ => none }
def MeterWalksWrongFalsely : Prop := meterWalksRow.holds Try.pinned (OpenSpec.ofChange meterWalksWrong)

/-- 'bastionlaw19.MeterForms': WHATEVER THE INPUT: true; the input reads as it did. -/
def meterFormsSpec : ChangeSpec := { name := "meterForms", fn := fun _ => fun
  | [d1, d2] => { results := [.lit (.bool true)], args := [d1, d2] }
  | _ => none }
def meterFormsRow : OpenClaim := { program := "ytjiajajifgfmjaa", sum := "5cc43212c183a6e7d7d74b77ced60d9b35348be9c71b69cad1338d9583ef4410", func := "bastion/bastionlaw19.MeterForms", spec := "meterForms", apart := false }
def MeterFormsSaid : Prop := meterFormsRow.holds Try.pinned (OpenSpec.ofChange meterFormsSpec)

/-- ITS FALSE NEIGHBOUR: 'it returns false'. Refute it at one input. -/
def meterFormsWrong : ChangeSpec := { name := "meterForms", fn := fun _ => fun
  | [d1, d2] => { results := [.lit (.bool false)], args := [d1, d2] }
  | _ => none }
def MeterFormsWrongFalsely : Prop := meterFormsRow.holds Try.pinned (OpenSpec.ofChange meterFormsWrong)

/-- 'bastionlaw19.MeterLater': WHATEVER THE INPUT: true; the input reads as it did. -/
def meterLaterSpec : ChangeSpec := { name := "meterLater", fn := fun _ => fun
  | [d1, d2, d3, d4, d5] => { results := [.lit (.bool true)], args := [d1, d2, d3, d4, d5] }
  | _ => none }
def meterLaterRow : OpenClaim := { program := "ytjiajajifgfmjaa", sum := "5cc43212c183a6e7d7d74b77ced60d9b35348be9c71b69cad1338d9583ef4410", func := "bastion/bastionlaw19.MeterLater", spec := "meterLater", apart := false }
def MeterLaterSaid : Prop := meterLaterRow.holds Try.pinned (OpenSpec.ofChange meterLaterSpec)

/-- ITS FALSE NEIGHBOUR: 'it returns false'. Refute it at one input. -/
def meterLaterWrong : ChangeSpec := { name := "meterLater", fn := fun _ => fun
  | [d1, d2, d3, d4, d5] => { results := [.lit (.bool false)], args := [d1, d2, d3, d4, d5] }
  | _ => none }
def MeterLaterWrongFalsely : Prop := meterLaterRow.holds Try.pinned (OpenSpec.ofChange meterLaterWrong)

/- THE SECOND FORM. 'bulk': how many values and letters a reading holds, each counted each time it is reached (what is shared counts as often as it is met; a slice's spare places count too). A statement '..UptoSaid' is the law's where the arguments, and the package variables that the reading takes, are together of bulk at most 1048576: NARROWER than '..Said'. Prove '..Said' where nothing that the law and all that it calls make is longer than what came in: it says more and counts as full. Else prove '..UptoSaid'. A law counts once. -/
mutual
def uptoBulk {H : Type} : DataW H → Nat
  | .lit (.string bytes) => bytes.length + 1
  | .lit _ => 1
  | .nil => 1
  | .ptr d => uptoBulk d + 1
  | .slice elems spare => uptoBulkAll elems + uptoBulkAll spare + 1
  | .agg parts => uptoBulkAll parts + 1
  | .iface _ d => uptoBulk d + 1
  | .map entries => uptoBulkEntries entries + 1
  | .held _ => 1
def uptoBulkAll {H : Type} : List (DataW H) → Nat
  | [] => 0
  | d :: r => uptoBulk d + uptoBulkAll r
def uptoBulkEntries {H : Type} : List (Lit × DataW H) → Nat
  | [] => 0
  | x :: r => uptoBulkEntry x + uptoBulkEntries r
def uptoBulkEntry {H : Type} : Lit × DataW H → Nat
  | (.string bytes, d) => bytes.length + uptoBulk d + 1
  | (_, d) => uptoBulk d + 1
 end
def uptoSmall : (H : Type) → List (DataW H) → Bool := fun _ ds => decide (uptoBulkAll ds ≤ 1048576)
def OpenSpec.upto (s : _root_.Go.ChangeSpec) : _root_.Go.OpenSpec := { _root_.Go.OpenSpec.ofChange s with cond := some uptoSmall }

/-- 'bastionlaw13.Locks', WHERE WHAT IT READS IS OF BULK AT MOST 1048576: true; the input reads as it did. -/
def locksUptoRow : OpenClaim := { program := "ytjiajajifgfmjaa", sum := "5cc43212c183a6e7d7d74b77ced60d9b35348be9c71b69cad1338d9583ef4410", func := "bastion/bastionlaw13.Locks", spec := "locks", apart := false, narrowed := true }
def LocksUptoSaid : Prop := locksUptoRow.holds Try.pinned (OpenSpec.upto locksSpec)

/-- 'bastionlaw13.LockWalks', WHERE WHAT IT READS IS OF BULK AT MOST 1048576: true; the input reads as it did. -/
def lockWalksUptoRow : OpenClaim := { program := "ytjiajajifgfmjaa", sum := "5cc43212c183a6e7d7d74b77ced60d9b35348be9c71b69cad1338d9583ef4410", func := "bastion/bastionlaw13.LockWalks", spec := "lockWalks", apart := false, narrowed := true }
def LockWalksUptoSaid : Prop := lockWalksUptoRow.holds Try.pinned (OpenSpec.upto lockWalksSpec)

/-- 'bastionlaw13.LockForms', WHERE WHAT IT READS IS OF BULK AT MOST 1048576: true; the input reads as it did. -/
def lockFormsUptoRow : OpenClaim := { program := "ytjiajajifgfmjaa", sum := "5cc43212c183a6e7d7d74b77ced60d9b35348be9c71b69cad1338d9583ef4410", func := "bastion/bastionlaw13.LockForms", spec := "lockForms", apart := false, narrowed := true }
def LockFormsUptoSaid : Prop := lockFormsUptoRow.holds Try.pinned (OpenSpec.upto lockFormsSpec)

/-- 'bastionlaw13.LockSpans', WHERE WHAT IT READS IS OF BULK AT MOST 1048576: true; the input reads as it did. -/
def lockSpansUptoRow : OpenClaim := { program := "ytjiajajifgfmjaa", sum := "5cc43212c183a6e7d7d74b77ced60d9b35348be9c71b69cad1338d9583ef4410", func := "bastion/bastionlaw13.LockSpans", spec := "lockSpans", apart := false, narrowed := true }
def LockSpansUptoSaid : Prop := lockSpansUptoRow.holds Try.pinned (OpenSpec.upto lockSpansSpec)

/-- 'bastionlaw19.Meters', WHERE WHAT IT READS IS OF BULK AT MOST 1048576: true; the input reads as it did. -/
def metersUptoRow : OpenClaim := { program := "ytjiajajifgfmjaa", sum := "5cc43212c183a6e7d7d74b77ced60d9b35348be9c71b69cad1338d9583ef4410", func := "bastion/bastionlaw19.Meters", spec := "meters", apart := false, narrowed := true }
def MetersUptoSaid : Prop := metersUptoRow.holds Try.pinned (OpenSpec.upto metersSpec)

/-- 'bastionlaw19.MeterWalks', WHERE WHAT IT READS IS OF BULK AT MOST 1048576: true; the input reads as it did. -/
def meterWalksUptoRow : OpenClaim := { program := "ytjiajajifgfmjaa", sum := "5cc43212c183a6e7d7d74b77ced60d9b35348be9c71b69cad1338d9583ef4410", func := "bastion/bastionlaw19.MeterWalks", spec := "meterWalks", apart := false, narrowed := true }
def MeterWalksUptoSaid : Prop := meterWalksUptoRow.holds Try.pinned (OpenSpec.upto meterWalksSpec)

/-- 'bastionlaw19.MeterForms', WHERE WHAT IT READS IS OF BULK AT MOST 1048576: true; the input reads as it did. -/
def meterFormsUptoRow : OpenClaim := { program := "ytjiajajifgfmjaa", sum := "5cc43212c183a6e7d7d74b77ced60d9b35348be9c71b69cad1338d9583ef4410", func := "bastion/bastionlaw19.MeterForms", spec := "meterForms", apart := false, narrowed := true }
def MeterFormsUptoSaid : Prop := meterFormsUptoRow.holds Try.pinned (OpenSpec.upto meterFormsSpec)

/-- 'bastionlaw19.MeterLater', WHERE WHAT IT READS IS OF BULK AT MOST 1048576: true; the input reads as it did. -/
def meterLaterUptoRow : OpenClaim := { program := "ytjiajajifgfmjaa", sum := "5cc43212c183a6e7d7d74b77ced60d9b35348be9c71b69cad1338d9583ef4410", func := "bastion/bastionlaw19.MeterLater", spec := "meterLater", apart := false, narrowed := true }
def MeterLaterUptoSaid : Prop := meterLaterUptoRow.holds Try.pinned (OpenSpec.upto meterLaterSpec)

end Rows
end Go.Proofs.Ytjiajajifgfmjaa
