/-
  No cell of these rows narrows 'for every input' (looked for: loops, veiled, ifaces, maps, wideKeys, modest, calm, conditions, laid).
  DERIVED. THE GIVEN ROWS OF THIS SEAT. 10 by the template 'for every input the law returns true; each argument reads behind the call as it read before'; 0 by the template 'total and deterministic' (their statements: YtjkidjplbddmmaaTotals.lean).
  GIVEN WITH THE SEED: the statements are not yours to turn. If you find one false, say at which input.
  Laid BY PROGRAM, IN A SANDBOX (cutbox-rows.mjs): the forced cells as the released guide's own fill.sh prints them over the translation 8b4e02c72763dd31… (all of the seat's roots in one cut). By AI agents, Wed Nov 11 2026. No macro, syntax, notation, axiom, sorry.
-/
import Derived.Test.YtjkidjplbddmmaaChecked
import GoSem.Claim
import GoSem.ClaimJoined
import GoSem.ClaimMapViews
import Derived.JoinedTies
import Derived.KernelRfl
namespace Go.Proofs.Ytjkidjplbddmmaa
/- THE CELL 'sum', in the pinned program and in every row, IS THE sha256 OF THE DUMP (.gsa) THAT YtjkidjplbddmmaaProg.lean LOADS. Nothing in Lean hashes anything: it is a label: what it is worth is what the hold of that sum in a sandbox is worth. -/
noncomputable def Try.pinned : Pinned := { name := "ytjkidjplbddmmaa", sum := "8b4e02c72763dd31ecd9f61c41c73fcb7e28b5fa29bbd841ca11af6dd87ed172", checked := Try.checked }
namespace Rows
def none {H : Type} : Left H := { results := [], args := [] }

/-- 'bastionlaw24.ClientForms': WHATEVER THE INPUT: true; the input reads as it did. -/
def clientFormsSpec : ChangeSpec := { name := "clientForms", fn := fun _ => fun
  | [d1, d2] => { results := [.lit (.bool true)], args := [d1, d2] }
  | _ => none }
def clientFormsRow : OpenClaim := { program := "ytjkidjplbddmmaa", sum := "8b4e02c72763dd31ecd9f61c41c73fcb7e28b5fa29bbd841ca11af6dd87ed172", func := "bastion/bastionlaw24.ClientForms", spec := "clientForms", apart := false }
def ClientFormsSaid : Prop := clientFormsRow.holds Try.pinned (OpenSpec.ofChange clientFormsSpec)

/-- ITS FALSE NEIGHBOUR: 'it returns false'. Refute it at one input. -/
def clientFormsWrong : ChangeSpec := { name := "clientForms", fn := fun _ => fun
  | [d1, d2] => { results := [.lit (.bool false)], args := [d1, d2] }
  | _ => none }
def ClientFormsWrongFalsely : Prop := clientFormsRow.holds Try.pinned (OpenSpec.ofChange clientFormsWrong)

/-- 'bastionlaw24.ClientAgree': WHATEVER THE INPUT: true; the input reads as it did. -/
def clientAgreeSpec : ChangeSpec := { name := "clientAgree", fn := fun _ => fun
  | [d1, d2, d3] => { results := [.lit (.bool true)], args := [d1, d2, d3] }
  | _ => none }
def clientAgreeRow : OpenClaim := { program := "ytjkidjplbddmmaa", sum := "8b4e02c72763dd31ecd9f61c41c73fcb7e28b5fa29bbd841ca11af6dd87ed172", func := "bastion/bastionlaw24.ClientAgree", spec := "clientAgree", apart := false }
def ClientAgreeSaid : Prop := clientAgreeRow.holds Try.pinned (OpenSpec.ofChange clientAgreeSpec)

/-- ITS FALSE NEIGHBOUR: 'it returns false'. Refute it at one input. -/
def clientAgreeWrong : ChangeSpec := { name := "clientAgree", fn := fun _ => fun
  | [d1, d2, d3] => { results := [.lit (.bool false)], args := [d1, d2, d3] }
  | _ => none }
def ClientAgreeWrongFalsely : Prop := clientAgreeRow.holds Try.pinned (OpenSpec.ofChange clientAgreeWrong)

/-- 'bastionlaw24.ClientFrames': WHATEVER THE INPUT: true; the input reads as it did. -/
def clientFramesSpec : ChangeSpec := { name := "clientFrames", fn := fun _ => fun
  | [d1, d2, d3] => { results := [.lit (.bool true)], args := [d1, d2, d3] }
  | _ => none }
def clientFramesRow : OpenClaim := { program := "ytjkidjplbddmmaa", sum := "8b4e02c72763dd31ecd9f61c41c73fcb7e28b5fa29bbd841ca11af6dd87ed172", func := "bastion/bastionlaw24.ClientFrames", spec := "clientFrames", apart := false }
def ClientFramesSaid : Prop := clientFramesRow.holds Try.pinned (OpenSpec.ofChange clientFramesSpec)

/-- ITS FALSE NEIGHBOUR: 'it returns false'. Refute it at one input. -/
def clientFramesWrong : ChangeSpec := { name := "clientFrames", fn := fun _ => fun
  | [d1, d2, d3] => { results := [.lit (.bool false)], args := [d1, d2, d3] }
  | _ => none }
def ClientFramesWrongFalsely : Prop := clientFramesRow.holds Try.pinned (OpenSpec.ofChange clientFramesWrong)

/-- 'bastionlaw24.Clients': WHATEVER THE INPUT: true; the input reads as it did. -/
def clientsSpec : ChangeSpec := { name := "clients", fn := fun _ => fun
  | [d1, d2, d3, d4, d5, d6, d7, d8, d9] => { results := [.lit (.bool true)], args := [d1, d2, d3, d4, d5, d6, d7, d8, d9] }
  | _ => none }
def clientsRow : OpenClaim := { program := "ytjkidjplbddmmaa", sum := "8b4e02c72763dd31ecd9f61c41c73fcb7e28b5fa29bbd841ca11af6dd87ed172", func := "bastion/bastionlaw24.Clients", spec := "clients", apart := false }
def ClientsSaid : Prop := clientsRow.holds Try.pinned (OpenSpec.ofChange clientsSpec)

/-- ITS FALSE NEIGHBOUR: 'it returns false'. Refute it at one input. -/
def clientsWrong : ChangeSpec := { name := "clients", fn := fun _ => fun
  | [d1, d2, d3, d4, d5, d6, d7, d8, d9] => { results := [.lit (.bool false)], args := [d1, d2, d3, d4, d5, d6, d7, d8, d9] }
  | _ => none }
def ClientsWrongFalsely : Prop := clientsRow.holds Try.pinned (OpenSpec.ofChange clientsWrong)

/-- 'bastionlaw20.StateParts': WHATEVER THE INPUT: true; the input reads as it did. -/
def statePartsSpec : ChangeSpec := { name := "stateParts", fn := fun _ => fun
  | [d1, d2, d3] => { results := [.lit (.bool true)], args := [d1, d2, d3] }
  | _ => none }
def statePartsRow : OpenClaim := { program := "ytjkidjplbddmmaa", sum := "8b4e02c72763dd31ecd9f61c41c73fcb7e28b5fa29bbd841ca11af6dd87ed172", func := "bastion/bastionlaw20.StateParts", spec := "stateParts", inPlace := ["slices.overlaps[bastion/api.User]"], unfollowed := true, recurses := true, apart := false }
def StatePartsSaid : Prop := statePartsRow.holds Try.pinned (OpenSpec.ofChange statePartsSpec)

/-- ITS FALSE NEIGHBOUR: 'it returns false'. Refute it at one input. -/
def statePartsWrong : ChangeSpec := { name := "stateParts", fn := fun _ => fun
  | [d1, d2, d3] => { results := [.lit (.bool false)], args := [d1, d2, d3] }
  | _ => none }
def StatePartsWrongFalsely : Prop := statePartsRow.holds Try.pinned (OpenSpec.ofChange statePartsWrong)

/-- 'bastionlaw20.StateAsks': WHATEVER THE INPUT: true; the input reads as it did. -/
def stateAsksSpec : ChangeSpec := { name := "stateAsks", fn := fun _ => fun
  | [d1, d2] => { results := [.lit (.bool true)], args := [d1, d2] }
  | _ => none }
def stateAsksRow : OpenClaim := { program := "ytjkidjplbddmmaa", sum := "8b4e02c72763dd31ecd9f61c41c73fcb7e28b5fa29bbd841ca11af6dd87ed172", func := "bastion/bastionlaw20.StateAsks", spec := "stateAsks", inPlace := ["slices.overlaps[bastion/api.User]"], unfollowed := true, recurses := true, apart := false }
def StateAsksSaid : Prop := stateAsksRow.holds Try.pinned (OpenSpec.ofChange stateAsksSpec)

/-- ITS FALSE NEIGHBOUR: 'it returns false'. Refute it at one input. -/
def stateAsksWrong : ChangeSpec := { name := "stateAsks", fn := fun _ => fun
  | [d1, d2] => { results := [.lit (.bool false)], args := [d1, d2] }
  | _ => none }
def StateAsksWrongFalsely : Prop := stateAsksRow.holds Try.pinned (OpenSpec.ofChange stateAsksWrong)

/-- 'bastionlaw20.StateUsers': WHATEVER THE INPUT: true; the input reads as it did. -/
def stateUsersSpec : ChangeSpec := { name := "stateUsers", fn := fun _ => fun
  | [d] => { results := [.lit (.bool true)], args := [d] }
  | _ => none }
def stateUsersRow : OpenClaim := { program := "ytjkidjplbddmmaa", sum := "8b4e02c72763dd31ecd9f61c41c73fcb7e28b5fa29bbd841ca11af6dd87ed172", func := "bastion/bastionlaw20.StateUsers", spec := "stateUsers", inPlace := ["slices.overlaps[bastion/api.User]"], unfollowed := true, recurses := true, apart := false }
def StateUsersSaid : Prop := stateUsersRow.holds Try.pinned (OpenSpec.ofChange stateUsersSpec)

/-- ITS FALSE NEIGHBOUR: 'it returns false'. Refute it at one input. -/
def stateUsersWrong : ChangeSpec := { name := "stateUsers", fn := fun _ => fun
  | [d] => { results := [.lit (.bool false)], args := [d] }
  | _ => none }
def StateUsersWrongFalsely : Prop := stateUsersRow.holds Try.pinned (OpenSpec.ofChange stateUsersWrong)

/-- 'bastionlaw20.StateSessions': WHATEVER THE INPUT: true; the input reads as it did. -/
def stateSessionsSpec : ChangeSpec := { name := "stateSessions", fn := fun _ => fun
  | [d] => { results := [.lit (.bool true)], args := [d] }
  | _ => none }
def stateSessionsRow : OpenClaim := { program := "ytjkidjplbddmmaa", sum := "8b4e02c72763dd31ecd9f61c41c73fcb7e28b5fa29bbd841ca11af6dd87ed172", func := "bastion/bastionlaw20.StateSessions", spec := "stateSessions", inPlace := ["slices.overlaps[bastion/api.User]"], unfollowed := true, recurses := true, apart := false }
def StateSessionsSaid : Prop := stateSessionsRow.holds Try.pinned (OpenSpec.ofChange stateSessionsSpec)

/-- ITS FALSE NEIGHBOUR: 'it returns false'. Refute it at one input. -/
def stateSessionsWrong : ChangeSpec := { name := "stateSessions", fn := fun _ => fun
  | [d] => { results := [.lit (.bool false)], args := [d] }
  | _ => none }
def StateSessionsWrongFalsely : Prop := stateSessionsRow.holds Try.pinned (OpenSpec.ofChange stateSessionsWrong)

/-- 'bastionlaw20.StateBoots': WHATEVER THE INPUT: true; the input reads as it did. -/
def stateBootsSpec : ChangeSpec := { name := "stateBoots", fn := fun _ => fun
  | [d] => { results := [.lit (.bool true)], args := [d] }
  | _ => none }
def stateBootsRow : OpenClaim := { program := "ytjkidjplbddmmaa", sum := "8b4e02c72763dd31ecd9f61c41c73fcb7e28b5fa29bbd841ca11af6dd87ed172", func := "bastion/bastionlaw20.StateBoots", spec := "stateBoots", inPlace := ["slices.overlaps[bastion/api.User]"], unfollowed := true, recurses := true, apart := false }
def StateBootsSaid : Prop := stateBootsRow.holds Try.pinned (OpenSpec.ofChange stateBootsSpec)

/-- ITS FALSE NEIGHBOUR: 'it returns false'. Refute it at one input. -/
def stateBootsWrong : ChangeSpec := { name := "stateBoots", fn := fun _ => fun
  | [d] => { results := [.lit (.bool false)], args := [d] }
  | _ => none }
def StateBootsWrongFalsely : Prop := stateBootsRow.holds Try.pinned (OpenSpec.ofChange stateBootsWrong)

/-- 'bastionlaw20.StateSpends': WHATEVER THE INPUT: true; the input reads as it did. -/
def stateSpendsSpec : ChangeSpec := { name := "stateSpends", fn := fun _ => fun
  | [d] => { results := [.lit (.bool true)], args := [d] }
  | _ => none }
def stateSpendsRow : OpenClaim := { program := "ytjkidjplbddmmaa", sum := "8b4e02c72763dd31ecd9f61c41c73fcb7e28b5fa29bbd841ca11af6dd87ed172", func := "bastion/bastionlaw20.StateSpends", spec := "stateSpends", inPlace := ["slices.overlaps[bastion/api.User]"], unfollowed := true, recurses := true, apart := false }
def StateSpendsSaid : Prop := stateSpendsRow.holds Try.pinned (OpenSpec.ofChange stateSpendsSpec)

/-- ITS FALSE NEIGHBOUR: 'it returns false'. Refute it at one input. -/
def stateSpendsWrong : ChangeSpec := { name := "stateSpends", fn := fun _ => fun
  | [d] => { results := [.lit (.bool false)], args := [d] }
  | _ => none }
def StateSpendsWrongFalsely : Prop := stateSpendsRow.holds Try.pinned (OpenSpec.ofChange stateSpendsWrong)

/- THE SECOND FORM. 'bulk': how many values and letters a reading holds, each counted each time it is reached (what is shared counts as often as it is met; a slice's spare places count too). A statement '..UptoSaid' is the law's where the arguments, and the package variables that the reading takes, are together of bulk at most 1048576: NARROWER than '..Said'. Prove '..Said' where nothing that the law and all that it calls make is longer than what came in: it says more and counts as full. Else prove '..UptoSaid'. A law counts once. -/
mutual
def uptoBulk {H : Type} : DataW H → Nat
  | .lit (.string bytes) => bytes.length + 1
  | .lit _ => 1
  | .nil => 1
  | .ptr d => uptoBulk d + 1
  | .slice elems spare => uptoBulkAll elems + uptoBulkAll spare + 1
  | .agg parts => uptoBulkAll parts + 1
  | .iface _ d => uptoBulk d + 1
  | .map entries => uptoBulkEntries entries + 1
  | .held _ => 1
def uptoBulkAll {H : Type} : List (DataW H) → Nat
  | [] => 0
  | d :: r => uptoBulk d + uptoBulkAll r
def uptoBulkEntries {H : Type} : List (Lit × DataW H) → Nat
  | [] => 0
  | x :: r => uptoBulkEntry x + uptoBulkEntries r
def uptoBulkEntry {H : Type} : Lit × DataW H → Nat
  | (.string bytes, d) => bytes.length + uptoBulk d + 1
  | (_, d) => uptoBulk d + 1
 end
def uptoSmall : (H : Type) → List (DataW H) → Bool := fun _ ds => decide (uptoBulkAll ds ≤ 1048576)
def OpenSpec.upto (s : _root_.Go.ChangeSpec) : _root_.Go.OpenSpec := { _root_.Go.OpenSpec.ofChange s with cond := some uptoSmall }

/-- 'bastionlaw24.ClientForms', WHERE WHAT IT READS IS OF BULK AT MOST 1048576: true; the input reads as it did. -/
def clientFormsUptoRow : OpenClaim := { program := "ytjkidjplbddmmaa", sum := "8b4e02c72763dd31ecd9f61c41c73fcb7e28b5fa29bbd841ca11af6dd87ed172", func := "bastion/bastionlaw24.ClientForms", spec := "clientForms", apart := false, narrowed := true }
def ClientFormsUptoSaid : Prop := clientFormsUptoRow.holds Try.pinned (OpenSpec.upto clientFormsSpec)

/-- 'bastionlaw24.ClientAgree', WHERE WHAT IT READS IS OF BULK AT MOST 1048576: true; the input reads as it did. -/
def clientAgreeUptoRow : OpenClaim := { program := "ytjkidjplbddmmaa", sum := "8b4e02c72763dd31ecd9f61c41c73fcb7e28b5fa29bbd841ca11af6dd87ed172", func := "bastion/bastionlaw24.ClientAgree", spec := "clientAgree", apart := false, narrowed := true }
def ClientAgreeUptoSaid : Prop := clientAgreeUptoRow.holds Try.pinned (OpenSpec.upto clientAgreeSpec)

/-- 'bastionlaw24.ClientFrames', WHERE WHAT IT READS IS OF BULK AT MOST 1048576: true; the input reads as it did. -/
def clientFramesUptoRow : OpenClaim := { program := "ytjkidjplbddmmaa", sum := "8b4e02c72763dd31ecd9f61c41c73fcb7e28b5fa29bbd841ca11af6dd87ed172", func := "bastion/bastionlaw24.ClientFrames", spec := "clientFrames", apart := false, narrowed := true }
def ClientFramesUptoSaid : Prop := clientFramesUptoRow.holds Try.pinned (OpenSpec.upto clientFramesSpec)

/-- 'bastionlaw24.Clients', WHERE WHAT IT READS IS OF BULK AT MOST 1048576: true; the input reads as it did. -/
def clientsUptoRow : OpenClaim := { program := "ytjkidjplbddmmaa", sum := "8b4e02c72763dd31ecd9f61c41c73fcb7e28b5fa29bbd841ca11af6dd87ed172", func := "bastion/bastionlaw24.Clients", spec := "clients", apart := false, narrowed := true }
def ClientsUptoSaid : Prop := clientsUptoRow.holds Try.pinned (OpenSpec.upto clientsSpec)

/-- 'bastionlaw20.StateParts', WHERE WHAT IT READS IS OF BULK AT MOST 1048576: true; the input reads as it did. -/
def statePartsUptoRow : OpenClaim := { program := "ytjkidjplbddmmaa", sum := "8b4e02c72763dd31ecd9f61c41c73fcb7e28b5fa29bbd841ca11af6dd87ed172", func := "bastion/bastionlaw20.StateParts", spec := "stateParts", inPlace := ["slices.overlaps[bastion/api.User]"], unfollowed := true, recurses := true, apart := false, narrowed := true }
def StatePartsUptoSaid : Prop := statePartsUptoRow.holds Try.pinned (OpenSpec.upto statePartsSpec)

/-- 'bastionlaw20.StateAsks', WHERE WHAT IT READS IS OF BULK AT MOST 1048576: true; the input reads as it did. -/
def stateAsksUptoRow : OpenClaim := { program := "ytjkidjplbddmmaa", sum := "8b4e02c72763dd31ecd9f61c41c73fcb7e28b5fa29bbd841ca11af6dd87ed172", func := "bastion/bastionlaw20.StateAsks", spec := "stateAsks", inPlace := ["slices.overlaps[bastion/api.User]"], unfollowed := true, recurses := true, apart := false, narrowed := true }
def StateAsksUptoSaid : Prop := stateAsksUptoRow.holds Try.pinned (OpenSpec.upto stateAsksSpec)

/-- 'bastionlaw20.StateUsers', WHERE WHAT IT READS IS OF BULK AT MOST 1048576: true; the input reads as it did. -/
def stateUsersUptoRow : OpenClaim := { program := "ytjkidjplbddmmaa", sum := "8b4e02c72763dd31ecd9f61c41c73fcb7e28b5fa29bbd841ca11af6dd87ed172", func := "bastion/bastionlaw20.StateUsers", spec := "stateUsers", inPlace := ["slices.overlaps[bastion/api.User]"], unfollowed := true, recurses := true, apart := false, narrowed := true }
def StateUsersUptoSaid : Prop := stateUsersUptoRow.holds Try.pinned (OpenSpec.upto stateUsersSpec)

/-- 'bastionlaw20.StateSessions', WHERE WHAT IT READS IS OF BULK AT MOST 1048576: true; the input reads as it did. -/
def stateSessionsUptoRow : OpenClaim := { program := "ytjkidjplbddmmaa", sum := "8b4e02c72763dd31ecd9f61c41c73fcb7e28b5fa29bbd841ca11af6dd87ed172", func := "bastion/bastionlaw20.StateSessions", spec := "stateSessions", inPlace := ["slices.overlaps[bastion/api.User]"], unfollowed := true, recurses := true, apart := false, narrowed := true }
def StateSessionsUptoSaid : Prop := stateSessionsUptoRow.holds Try.pinned (OpenSpec.upto stateSessionsSpec)

/-- 'bastionlaw20.StateBoots', WHERE WHAT IT READS IS OF BULK AT MOST 1048576: true; the input reads as it did. -/
def stateBootsUptoRow : OpenClaim := { program := "ytjkidjplbddmmaa", sum := "8b4e02c72763dd31ecd9f61c41c73fcb7e28b5fa29bbd841ca11af6dd87ed172", func := "bastion/bastionlaw20.StateBoots", spec := "stateBoots", inPlace := ["slices.overlaps[bastion/api.User]"], unfollowed := true, recurses := true, apart := false, narrowed := true }
def StateBootsUptoSaid : Prop := stateBootsUptoRow.holds Try.pinned (OpenSpec.upto stateBootsSpec)

/-- 'bastionlaw20.StateSpends', WHERE WHAT IT READS IS OF BULK AT MOST 1048576: true; the input reads as it did. -/
def stateSpendsUptoRow : OpenClaim := { program := "ytjkidjplbddmmaa", sum := "8b4e02c72763dd31ecd9f61c41c73fcb7e28b5fa29bbd841ca11af6dd87ed172", func := "bastion/bastionlaw20.StateSpends", spec := "stateSpends", inPlace := ["slices.overlaps[bastion/api.User]"], unfollowed := true, recurses := true, apart := false, narrowed := true }
def StateSpendsUptoSaid : Prop := stateSpendsUptoRow.holds Try.pinned (OpenSpec.upto stateSpendsSpec)

end Rows
end Go.Proofs.Ytjkidjplbddmmaa
