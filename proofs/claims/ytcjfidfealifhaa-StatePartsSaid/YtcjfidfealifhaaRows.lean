/-
  No cell of these rows narrows 'for every input' (looked for: loops, veiled, ifaces, maps, wideKeys, modest, calm, conditions, laid).
  DERIVED. THE GIVEN ROWS OF THIS SEAT. 6 by the template 'for every input the law returns true; each argument reads behind the call as it read before'; 0 by the template 'total and deterministic' (their statements: YtcjfidfealifhaaTotals.lean).
  GIVEN WITH THE SEED: the statements are not yours to turn. If you find one false, say at which input.
  Laid BY PROGRAM, IN A SANDBOX (cutbox-rows.mjs): the forced cells as the released guide's own fill.sh prints them over the translation 232f27576a4282b0… (all of the seat's roots in one cut). By AI agents, Wed Nov 11 2026. No macro, syntax, notation, axiom, sorry.
-/
import Derived.Test.YtcjfidfealifhaaChecked
import GoSem.Claim
import GoSem.ClaimJoined
import GoSem.ClaimMapViews
import Derived.JoinedTies
import Derived.KernelRfl
namespace Go.Proofs.Ytcjfidfealifhaa
/- THE CELL 'sum', in the pinned program and in every row, IS THE sha256 OF THE DUMP (.gsa) THAT YtcjfidfealifhaaProg.lean LOADS. Nothing in Lean hashes anything: it is a label: what it is worth is what the hold of that sum in a sandbox is worth. -/
noncomputable def Try.pinned : Pinned := { name := "ytcjfidfealifhaa", sum := "232f27576a4282b0d8434457db5f45315f2ecf88861a2d112587c89b83a347c6", checked := Try.checked }
namespace Rows
def none {H : Type} : Left H := { results := [], args := [] }

/-- 'bastionlaw20.StateParts': WHATEVER THE INPUT: true; the input reads as it did. -/
def statePartsSpec : ChangeSpec := { name := "stateParts", fn := fun _ => fun
  | [d1, d2, d3] => { results := [.lit (.bool true)], args := [d1, d2, d3] }
  | _ => none }
def statePartsRow : OpenClaim := { program := "ytcjfidfealifhaa", sum := "232f27576a4282b0d8434457db5f45315f2ecf88861a2d112587c89b83a347c6", func := "bastion/bastionlaw20.StateParts", spec := "stateParts", inPlace := ["slices.overlaps[bastion/api.User]"], unfollowed := true, recurses := true, apart := false }
def StatePartsSaid : Prop := statePartsRow.holds Try.pinned (OpenSpec.ofChange statePartsSpec)

/-- ITS FALSE NEIGHBOUR: 'it returns false'. Refute it at one input. -/
def statePartsWrong : ChangeSpec := { name := "stateParts", fn := fun _ => fun
  | [d1, d2, d3] => { results := [.lit (.bool false)], args := [d1, d2, d3] }
  | _ => none }
def StatePartsWrongFalsely : Prop := statePartsRow.holds Try.pinned (OpenSpec.ofChange statePartsWrong)

/-- 'bastionlaw20.StateAsks': WHATEVER THE INPUT: true; the input reads as it did. -/
def stateAsksSpec : ChangeSpec := { name := "stateAsks", fn := fun _ => fun
  | [d1, d2] => { results := [.lit (.bool true)], args := [d1, d2] }
  | _ => none }
def stateAsksRow : OpenClaim := { program := "ytcjfidfealifhaa", sum := "232f27576a4282b0d8434457db5f45315f2ecf88861a2d112587c89b83a347c6", func := "bastion/bastionlaw20.StateAsks", spec := "stateAsks", inPlace := ["slices.overlaps[bastion/api.User]"], unfollowed := true, recurses := true, apart := false }
def StateAsksSaid : Prop := stateAsksRow.holds Try.pinned (OpenSpec.ofChange stateAsksSpec)

/-- ITS FALSE NEIGHBOUR: 'it returns false'. Refute it at one input. -/
def stateAsksWrong : ChangeSpec := { name := "stateAsks", fn := fun _ => fun
  | [d1, d2] => { results := [.lit (.bool false)], args := [d1, d2] }
  | _ => none }
def StateAsksWrongFalsely : Prop := stateAsksRow.holds Try.pinned (OpenSpec.ofChange stateAsksWrong)

/-- 'bastionlaw20.StateUsers': WHATEVER THE INPUT: true; the input reads as it did. -/
def stateUsersSpec : ChangeSpec := { name := "stateUsers", fn := fun _ => fun
  | [d] => { results := [.lit (.bool true)], args := [d] }
  | _ => none }
def stateUsersRow : OpenClaim := { program := "ytcjfidfealifhaa", sum := "232f27576a4282b0d8434457db5f45315f2ecf88861a2d112587c89b83a347c6", func := "bastion/bastionlaw20.StateUsers", spec := "stateUsers", inPlace := ["slices.overlaps[bastion/api.User]"], unfollowed := true, recurses := true, apart := false }
def StateUsersSaid : Prop := stateUsersRow.holds Try.pinned (OpenSpec.ofChange stateUsersSpec)

/-- ITS FALSE NEIGHBOUR: 'it returns false'. Refute it at one input. -/
def stateUsersWrong : ChangeSpec := { name := "stateUsers", fn := fun _ => fun
  | [d] => { results := [.lit (.bool false)], args := [d] }
  | _ => none }
def StateUsersWrongFalsely : Prop := stateUsersRow.holds Try.pinned (OpenSpec.ofChange stateUsersWrong)

/-- 'bastionlaw20.StateSessions': WHATEVER THE INPUT: true; the input reads as it did. -/
def stateSessionsSpec : ChangeSpec := { name := "stateSessions", fn := fun _ => fun
  | [d] => { results := [.lit (.bool true)], args := [d] }
  | _ => none }
def stateSessionsRow : OpenClaim := { program := "ytcjfidfealifhaa", sum := "232f27576a4282b0d8434457db5f45315f2ecf88861a2d112587c89b83a347c6", func := "bastion/bastionlaw20.StateSessions", spec := "stateSessions", inPlace := ["slices.overlaps[bastion/api.User]"], unfollowed := true, recurses := true, apart := false }
def StateSessionsSaid : Prop := stateSessionsRow.holds Try.pinned (OpenSpec.ofChange stateSessionsSpec)

/-- ITS FALSE NEIGHBOUR: 'it returns false'. Refute it at one input. -/
def stateSessionsWrong : ChangeSpec := { name := "stateSessions", fn := fun _ => fun
  | [d] => { results := [.lit (.bool false)], args := [d] }
  | _ => none }
def StateSessionsWrongFalsely : Prop := stateSessionsRow.holds Try.pinned (OpenSpec.ofChange stateSessionsWrong)

/-- 'bastionlaw20.StateBoots': WHATEVER THE INPUT: true; the input reads as it did. -/
def stateBootsSpec : ChangeSpec := { name := "stateBoots", fn := fun _ => fun
  | [d] => { results := [.lit (.bool true)], args := [d] }
  | _ => none }
def stateBootsRow : OpenClaim := { program := "ytcjfidfealifhaa", sum := "232f27576a4282b0d8434457db5f45315f2ecf88861a2d112587c89b83a347c6", func := "bastion/bastionlaw20.StateBoots", spec := "stateBoots", inPlace := ["slices.overlaps[bastion/api.User]"], unfollowed := true, recurses := true, apart := false }
def StateBootsSaid : Prop := stateBootsRow.holds Try.pinned (OpenSpec.ofChange stateBootsSpec)

/-- ITS FALSE NEIGHBOUR: 'it returns false'. Refute it at one input. -/
def stateBootsWrong : ChangeSpec := { name := "stateBoots", fn := fun _ => fun
  | [d] => { results := [.lit (.bool false)], args := [d] }
  | _ => none }
def StateBootsWrongFalsely : Prop := stateBootsRow.holds Try.pinned (OpenSpec.ofChange stateBootsWrong)

/-- 'bastionlaw20.StateSpends': WHATEVER THE INPUT: true; the input reads as it did. -/
def stateSpendsSpec : ChangeSpec := { name := "stateSpends", fn := fun _ => fun
  | [d] => { results := [.lit (.bool true)], args := [d] }
  | _ => none }
def stateSpendsRow : OpenClaim := { program := "ytcjfidfealifhaa", sum := "232f27576a4282b0d8434457db5f45315f2ecf88861a2d112587c89b83a347c6", func := "bastion/bastionlaw20.StateSpends", spec := "stateSpends", inPlace := ["slices.overlaps[bastion/api.User]"], unfollowed := true, recurses := true, apart := false }
def StateSpendsSaid : Prop := stateSpendsRow.holds Try.pinned (OpenSpec.ofChange stateSpendsSpec)

/-- ITS FALSE NEIGHBOUR: 'it returns false'. Refute it at one input. -/
def stateSpendsWrong : ChangeSpec := { name := "stateSpends", fn := fun _ => fun
  | [d] => { results := [.lit (.bool false)], args := [d] }
  | _ => none }
def StateSpendsWrongFalsely : Prop := stateSpendsRow.holds Try.pinned (OpenSpec.ofChange stateSpendsWrong)

/- THE SECOND FORM. 'bulk': how many values and letters a reading holds, each counted each time it is reached (what is shared counts as often as it is met; a slice's spare places count too). A statement '..UptoSaid' is the law's where the arguments, and the package variables that the reading takes, are together of bulk at most 1048576: NARROWER than '..Said'. Prove '..Said' where nothing that the law and all that it calls make is longer than what came in: it says more and counts as full. Else prove '..UptoSaid'. A law counts once. -/
mutual
def uptoBulk {H : Type} : DataW H → Nat
  | .lit (.string bytes) => bytes.length + 1
  | .lit _ => 1
  | .nil => 1
  | .ptr d => uptoBulk d + 1
  | .slice elems spare => uptoBulkAll elems + uptoBulkAll spare + 1
  | .agg parts => uptoBulkAll parts + 1
  | .iface _ d => uptoBulk d + 1
  | .map entries => uptoBulkEntries entries + 1
  | .held _ => 1
def uptoBulkAll {H : Type} : List (DataW H) → Nat
  | [] => 0
  | d :: r => uptoBulk d + uptoBulkAll r
def uptoBulkEntries {H : Type} : List (Lit × DataW H) → Nat
  | [] => 0
  | x :: r => uptoBulkEntry x + uptoBulkEntries r
def uptoBulkEntry {H : Type} : Lit × DataW H → Nat
  | (.string bytes, d) => bytes.length + uptoBulk d + 1
  | (_, d) => uptoBulk d + 1
 end
def uptoSmall : (H : Type) → List (DataW H) → Bool := fun _ ds => decide (uptoBulkAll ds ≤ 1048576)
def OpenSpec.upto (s : _root_.Go.ChangeSpec) : _root_.Go.OpenSpec := { _root_.Go.OpenSpec.ofChange s with cond := some uptoSmall }

/-- 'bastionlaw20.StateParts', WHERE WHAT IT READS IS OF BULK AT MOST 1048576: true; the input reads as it did. -/
def statePartsUptoRow : OpenClaim := { program := "ytcjfidfealifhaa", sum := "232f27576a4282b0d8434457db5f45315f2ecf88861a2d112587c89b83a347c6", func := "bastion/bastionlaw20.StateParts", spec := "stateParts", inPlace := ["slices.overlaps[bastion/api.User]"], unfollowed := true, recurses := true, apart := false, narrowed := true }
def StatePartsUptoSaid : Prop := statePartsUptoRow.holds Try.pinned (OpenSpec.upto statePartsSpec)

/-- 'bastionlaw20.StateAsks', WHERE WHAT IT READS IS OF BULK AT MOST 1048576: true; the input reads as it did. -/
def stateAsksUptoRow : OpenClaim := { program := "ytcjfidfealifhaa", sum := "232f27576a4282b0d8434457db5f45315f2ecf88861a2d112587c89b83a347c6", func := "bastion/bastionlaw20.StateAsks", spec := "stateAsks", inPlace := ["slices.overlaps[bastion/api.User]"], unfollowed := true, recurses := true, apart := false, narrowed := true }
def StateAsksUptoSaid : Prop := stateAsksUptoRow.holds Try.pinned (OpenSpec.upto stateAsksSpec)

/-- 'bastionlaw20.StateUsers', WHERE WHAT IT READS IS OF BULK AT MOST 1048576: true; the input reads as it did. -/
def stateUsersUptoRow : OpenClaim := { program := "ytcjfidfealifhaa", sum := "232f27576a4282b0d8434457db5f45315f2ecf88861a2d112587c89b83a347c6", func := "bastion/bastionlaw20.StateUsers", spec := "stateUsers", inPlace := ["slices.overlaps[bastion/api.User]"], unfollowed := true, recurses := true, apart := false, narrowed := true }
def StateUsersUptoSaid : Prop := stateUsersUptoRow.holds Try.pinned (OpenSpec.upto stateUsersSpec)

/-- 'bastionlaw20.StateSessions', WHERE WHAT IT READS IS OF BULK AT MOST 1048576: true; the input reads as it did. -/
def stateSessionsUptoRow : OpenClaim := { program := "ytcjfidfealifhaa", sum := "232f27576a4282b0d8434457db5f45315f2ecf88861a2d112587c89b83a347c6", func := "bastion/bastionlaw20.StateSessions", spec := "stateSessions", inPlace := ["slices.overlaps[bastion/api.User]"], unfollowed := true, recurses := true, apart := false, narrowed := true }
def StateSessionsUptoSaid : Prop := stateSessionsUptoRow.holds Try.pinned (OpenSpec.upto stateSessionsSpec)

/-- 'bastionlaw20.StateBoots', WHERE WHAT IT READS IS OF BULK AT MOST 1048576: true; the input reads as it did. -/
def stateBootsUptoRow : OpenClaim := { program := "ytcjfidfealifhaa", sum := "232f27576a4282b0d8434457db5f45315f2ecf88861a2d112587c89b83a347c6", func := "bastion/bastionlaw20.StateBoots", spec := "stateBoots", inPlace := ["slices.overlaps[bastion/api.User]"], unfollowed := true, recurses := true, apart := false, narrowed := true }
def StateBootsUptoSaid : Prop := stateBootsUptoRow.holds Try.pinned (OpenSpec.upto stateBootsSpec)

/-- 'bastionlaw20.StateSpends', WHERE WHAT IT READS IS OF BULK AT MOST 1048576: true; the input reads as it did. -/
def stateSpendsUptoRow : OpenClaim := { program := "ytcjfidfealifhaa", sum := "232f27576a4282b0d8434457db5f45315f2ecf88861a2d112587c89b83a347c6", func := "bastion/bastionlaw20.StateSpends", spec := "stateSpends", inPlace := ["slices.overlaps[bastion/api.User]"], unfollowed := true, recurses := true, apart := false, narrowed := true }
def StateSpendsUptoSaid : Prop := stateSpendsUptoRow.holds Try.pinned (OpenSpec.upto stateSpendsSpec)

end Rows
end Go.Proofs.Ytcjfidfealifhaa
