/-
  No cell of these rows narrows 'for every input' (looked for: loops, veiled, ifaces, maps, wideKeys, modest, calm, conditions, laid).
  DERIVED. THE GIVEN ROWS OF THIS SEAT. 16 by the template 'for every input the law returns true; each argument reads behind the call as it read before'; 0 by the template 'total and deterministic' (their statements: YticaicdopfpknaaTotals.lean).
  GIVEN WITH THE SEED: the statements are not yours to turn. If you find one false, say at which input.
  Laid BY PROGRAM, IN A SANDBOX (cutbox-rows.mjs): the forced cells as the released guide's own fill.sh prints them over the translation 3ad56e7e0cceaa31… (all of the seat's roots in one cut). By AI agents, Wed Nov 11 2026. No macro, syntax, notation, axiom, sorry.
-/
import Derived.Test.YticaicdopfpknaaChecked
import GoSem.Claim
import GoSem.ClaimJoined
import GoSem.ClaimMapViews
import Derived.JoinedTies
import Derived.KernelRfl
namespace Go.Proofs.Yticaicdopfpknaa
/- THE CELL 'sum', in the pinned program and in every row, IS THE sha256 OF THE DUMP (.gsa) THAT YticaicdopfpknaaProg.lean LOADS. Nothing in Lean hashes anything: it is a label: what it is worth is what the hold of that sum in a sandbox is worth. -/
noncomputable def Try.pinned : Pinned := { name := "yticaicdopfpknaa", sum := "3ad56e7e0cceaa314205e04b74ad69f1b69dc55fa3fafbba25f4a8409db430a8", checked := Try.checked }
namespace Rows
def none {H : Type} : Left H := { results := [], args := [] }

/-- 'bastionlaw6.Admins': WHATEVER THE INPUT: true; the input reads as it did. -/
def adminsSpec : ChangeSpec := { name := "admins", fn := fun _ => fun
  | [d1, d2] => { results := [.lit (.bool true)], args := [d1, d2] }
  | _ => none }
def adminsRow : OpenClaim := { program := "yticaicdopfpknaa", sum := "3ad56e7e0cceaa314205e04b74ad69f1b69dc55fa3fafbba25f4a8409db430a8", func := "bastion/bastionlaw6.Admins", spec := "admins", apart := false }
def AdminsSaid : Prop := adminsRow.holds Try.pinned (OpenSpec.ofChange adminsSpec)

/-- ITS FALSE NEIGHBOUR: 'it returns false'. Refute it at one input. -/
def adminsWrong : ChangeSpec := { name := "admins", fn := fun _ => fun
  | [d1, d2] => { results := [.lit (.bool false)], args := [d1, d2] }
  | _ => none }
def AdminsWrongFalsely : Prop := adminsRow.holds Try.pinned (OpenSpec.ofChange adminsWrong)

/-- 'bastionlaw6.AdminBack': WHATEVER THE INPUT: true; the input reads as it did. -/
def adminBackSpec : ChangeSpec := { name := "adminBack", fn := fun _ => fun
  | [d1, d2, d3] => { results := [.lit (.bool true)], args := [d1, d2, d3] }
  | _ => none }
def adminBackRow : OpenClaim := { program := "yticaicdopfpknaa", sum := "3ad56e7e0cceaa314205e04b74ad69f1b69dc55fa3fafbba25f4a8409db430a8", func := "bastion/bastionlaw6.AdminBack", spec := "adminBack", apart := false }
def AdminBackSaid : Prop := adminBackRow.holds Try.pinned (OpenSpec.ofChange adminBackSpec)

/-- ITS FALSE NEIGHBOUR: 'it returns false'. Refute it at one input. -/
def adminBackWrong : ChangeSpec := { name := "adminBack", fn := fun _ => fun
  | [d1, d2, d3] => { results := [.lit (.bool false)], args := [d1, d2, d3] }
  | _ => none }
def AdminBackWrongFalsely : Prop := adminBackRow.holds Try.pinned (OpenSpec.ofChange adminBackWrong)

/-- 'bastionlaw6.AdminUnlike': WHATEVER THE INPUT: true; the input reads as it did. -/
def adminUnlikeSpec : ChangeSpec := { name := "adminUnlike", fn := fun _ => fun
  | [d1, d2] => { results := [.lit (.bool true)], args := [d1, d2] }
  | _ => none }
def adminUnlikeRow : OpenClaim := { program := "yticaicdopfpknaa", sum := "3ad56e7e0cceaa314205e04b74ad69f1b69dc55fa3fafbba25f4a8409db430a8", func := "bastion/bastionlaw6.AdminUnlike", spec := "adminUnlike", apart := false }
def AdminUnlikeSaid : Prop := adminUnlikeRow.holds Try.pinned (OpenSpec.ofChange adminUnlikeSpec)

/-- ITS FALSE NEIGHBOUR: 'it returns false'. Refute it at one input. -/
def adminUnlikeWrong : ChangeSpec := { name := "adminUnlike", fn := fun _ => fun
  | [d1, d2] => { results := [.lit (.bool false)], args := [d1, d2] }
  | _ => none }
def AdminUnlikeWrongFalsely : Prop := adminUnlikeRow.holds Try.pinned (OpenSpec.ofChange adminUnlikeWrong)

/-- 'bastionlaw6.AdminForms': WHATEVER THE INPUT: true; the input reads as it did. -/
def adminFormsSpec : ChangeSpec := { name := "adminForms", fn := fun _ => fun
  | [d1, d2] => { results := [.lit (.bool true)], args := [d1, d2] }
  | _ => none }
def adminFormsRow : OpenClaim := { program := "yticaicdopfpknaa", sum := "3ad56e7e0cceaa314205e04b74ad69f1b69dc55fa3fafbba25f4a8409db430a8", func := "bastion/bastionlaw6.AdminForms", spec := "adminForms", apart := false }
def AdminFormsSaid : Prop := adminFormsRow.holds Try.pinned (OpenSpec.ofChange adminFormsSpec)

/-- ITS FALSE NEIGHBOUR: 'it returns false'. Refute it at one input. -/
def adminFormsWrong : ChangeSpec := { name := "adminForms", fn := fun _ => fun
  | [d1, d2] => { results := [.lit (.bool false)], args := [d1, d2] }
  | _ => none }
def AdminFormsWrongFalsely : Prop := adminFormsRow.holds Try.pinned (OpenSpec.ofChange adminFormsWrong)

/-- 'bastionlaw7.Events': WHATEVER THE INPUT: true; the input reads as it did. -/
def eventsSpec : ChangeSpec := { name := "events", fn := fun _ => fun
  | [d1, d2] => { results := [.lit (.bool true)], args := [d1, d2] }
  | _ => none }
def eventsRow : OpenClaim := { program := "yticaicdopfpknaa", sum := "3ad56e7e0cceaa314205e04b74ad69f1b69dc55fa3fafbba25f4a8409db430a8", func := "bastion/bastionlaw7.Events", spec := "events", apart := false }
def EventsSaid : Prop := eventsRow.holds Try.pinned (OpenSpec.ofChange eventsSpec)

/-- ITS FALSE NEIGHBOUR: 'it returns false'. Refute it at one input. -/
def eventsWrong : ChangeSpec := { name := "events", fn := fun _ => fun
  | [d1, d2] => { results := [.lit (.bool false)], args := [d1, d2] }
  | _ => none }
def EventsWrongFalsely : Prop := eventsRow.holds Try.pinned (OpenSpec.ofChange eventsWrong)

/-- 'bastionlaw7.EventBack': WHATEVER THE INPUT: true; the input reads as it did. -/
def eventBackSpec : ChangeSpec := { name := "eventBack", fn := fun _ => fun
  | [d1, d2, d3] => { results := [.lit (.bool true)], args := [d1, d2, d3] }
  | _ => none }
def eventBackRow : OpenClaim := { program := "yticaicdopfpknaa", sum := "3ad56e7e0cceaa314205e04b74ad69f1b69dc55fa3fafbba25f4a8409db430a8", func := "bastion/bastionlaw7.EventBack", spec := "eventBack", apart := false }
def EventBackSaid : Prop := eventBackRow.holds Try.pinned (OpenSpec.ofChange eventBackSpec)

/-- ITS FALSE NEIGHBOUR: 'it returns false'. Refute it at one input. -/
def eventBackWrong : ChangeSpec := { name := "eventBack", fn := fun _ => fun
  | [d1, d2, d3] => { results := [.lit (.bool false)], args := [d1, d2, d3] }
  | _ => none }
def EventBackWrongFalsely : Prop := eventBackRow.holds Try.pinned (OpenSpec.ofChange eventBackWrong)

/-- 'bastionlaw7.EventUnlike': WHATEVER THE INPUT: true; the input reads as it did. -/
def eventUnlikeSpec : ChangeSpec := { name := "eventUnlike", fn := fun _ => fun
  | [d1, d2] => { results := [.lit (.bool true)], args := [d1, d2] }
  | _ => none }
def eventUnlikeRow : OpenClaim := { program := "yticaicdopfpknaa", sum := "3ad56e7e0cceaa314205e04b74ad69f1b69dc55fa3fafbba25f4a8409db430a8", func := "bastion/bastionlaw7.EventUnlike", spec := "eventUnlike", apart := false }
def EventUnlikeSaid : Prop := eventUnlikeRow.holds Try.pinned (OpenSpec.ofChange eventUnlikeSpec)

/-- ITS FALSE NEIGHBOUR: 'it returns false'. Refute it at one input. -/
def eventUnlikeWrong : ChangeSpec := { name := "eventUnlike", fn := fun _ => fun
  | [d1, d2] => { results := [.lit (.bool false)], args := [d1, d2] }
  | _ => none }
def EventUnlikeWrongFalsely : Prop := eventUnlikeRow.holds Try.pinned (OpenSpec.ofChange eventUnlikeWrong)

/-- 'bastionlaw7.EventForms': WHATEVER THE INPUT: true; the input reads as it did. -/
def eventFormsSpec : ChangeSpec := { name := "eventForms", fn := fun _ => fun
  | [d1, d2] => { results := [.lit (.bool true)], args := [d1, d2] }
  | _ => none }
def eventFormsRow : OpenClaim := { program := "yticaicdopfpknaa", sum := "3ad56e7e0cceaa314205e04b74ad69f1b69dc55fa3fafbba25f4a8409db430a8", func := "bastion/bastionlaw7.EventForms", spec := "eventForms", apart := false }
def EventFormsSaid : Prop := eventFormsRow.holds Try.pinned (OpenSpec.ofChange eventFormsSpec)

/-- ITS FALSE NEIGHBOUR: 'it returns false'. Refute it at one input. -/
def eventFormsWrong : ChangeSpec := { name := "eventForms", fn := fun _ => fun
  | [d1, d2] => { results := [.lit (.bool false)], args := [d1, d2] }
  | _ => none }
def EventFormsWrongFalsely : Prop := eventFormsRow.holds Try.pinned (OpenSpec.ofChange eventFormsWrong)

/-- 'bastionlaw4.Packets': WHATEVER THE INPUT: true; the input reads as it did. -/
def packetsSpec : ChangeSpec := { name := "packets", fn := fun _ => fun
  | [d1, d2] => { results := [.lit (.bool true)], args := [d1, d2] }
  | _ => none }
def packetsRow : OpenClaim := { program := "yticaicdopfpknaa", sum := "3ad56e7e0cceaa314205e04b74ad69f1b69dc55fa3fafbba25f4a8409db430a8", func := "bastion/bastionlaw4.Packets", spec := "packets", apart := false }
def PacketsSaid : Prop := packetsRow.holds Try.pinned (OpenSpec.ofChange packetsSpec)

/-- ITS FALSE NEIGHBOUR: 'it returns false'. Refute it at one input. -/
def packetsWrong : ChangeSpec := { name := "packets", fn := fun _ => fun
  | [d1, d2] => { results := [.lit (.bool false)], args := [d1, d2] }
  | _ => none }
def PacketsWrongFalsely : Prop := packetsRow.holds Try.pinned (OpenSpec.ofChange packetsWrong)

/-- 'bastionlaw4.PacketBack': WHATEVER THE INPUT: true; the input reads as it did. -/
def packetBackSpec : ChangeSpec := { name := "packetBack", fn := fun _ => fun
  | [d1, d2, d3] => { results := [.lit (.bool true)], args := [d1, d2, d3] }
  | _ => none }
def packetBackRow : OpenClaim := { program := "yticaicdopfpknaa", sum := "3ad56e7e0cceaa314205e04b74ad69f1b69dc55fa3fafbba25f4a8409db430a8", func := "bastion/bastionlaw4.PacketBack", spec := "packetBack", apart := false }
def PacketBackSaid : Prop := packetBackRow.holds Try.pinned (OpenSpec.ofChange packetBackSpec)

/-- ITS FALSE NEIGHBOUR: 'it returns false'. Refute it at one input. -/
def packetBackWrong : ChangeSpec := { name := "packetBack", fn := fun _ => fun
  | [d1, d2, d3] => { results := [.lit (.bool false)], args := [d1, d2, d3] }
  | _ => none }
def PacketBackWrongFalsely : Prop := packetBackRow.holds Try.pinned (OpenSpec.ofChange packetBackWrong)

/-- 'bastionlaw4.PacketUnlike': WHATEVER THE INPUT: true; the input reads as it did. -/
def packetUnlikeSpec : ChangeSpec := { name := "packetUnlike", fn := fun _ => fun
  | [d1, d2] => { results := [.lit (.bool true)], args := [d1, d2] }
  | _ => none }
def packetUnlikeRow : OpenClaim := { program := "yticaicdopfpknaa", sum := "3ad56e7e0cceaa314205e04b74ad69f1b69dc55fa3fafbba25f4a8409db430a8", func := "bastion/bastionlaw4.PacketUnlike", spec := "packetUnlike", apart := false }
def PacketUnlikeSaid : Prop := packetUnlikeRow.holds Try.pinned (OpenSpec.ofChange packetUnlikeSpec)

/-- ITS FALSE NEIGHBOUR: 'it returns false'. Refute it at one input. -/
def packetUnlikeWrong : ChangeSpec := { name := "packetUnlike", fn := fun _ => fun
  | [d1, d2] => { results := [.lit (.bool false)], args := [d1, d2] }
  | _ => none }
def PacketUnlikeWrongFalsely : Prop := packetUnlikeRow.holds Try.pinned (OpenSpec.ofChange packetUnlikeWrong)

/-- 'bastionlaw4.PacketForms': WHATEVER THE INPUT: true; the input reads as it did. -/
def packetFormsSpec : ChangeSpec := { name := "packetForms", fn := fun _ => fun
  | [d1, d2] => { results := [.lit (.bool true)], args := [d1, d2] }
  | _ => none }
def packetFormsRow : OpenClaim := { program := "yticaicdopfpknaa", sum := "3ad56e7e0cceaa314205e04b74ad69f1b69dc55fa3fafbba25f4a8409db430a8", func := "bastion/bastionlaw4.PacketForms", spec := "packetForms", apart := false }
def PacketFormsSaid : Prop := packetFormsRow.holds Try.pinned (OpenSpec.ofChange packetFormsSpec)

/-- ITS FALSE NEIGHBOUR: 'it returns false'. Refute it at one input. -/
def packetFormsWrong : ChangeSpec := { name := "packetForms", fn := fun _ => fun
  | [d1, d2] => { results := [.lit (.bool false)], args := [d1, d2] }
  | _ => none }
def PacketFormsWrongFalsely : Prop := packetFormsRow.holds Try.pinned (OpenSpec.ofChange packetFormsWrong)

/-- 'bastionlaw5.Replies': WHATEVER THE INPUT: true; the input reads as it did. -/
def repliesSpec : ChangeSpec := { name := "replies", fn := fun _ => fun
  | [d1, d2] => { results := [.lit (.bool true)], args := [d1, d2] }
  | _ => none }
def repliesRow : OpenClaim := { program := "yticaicdopfpknaa", sum := "3ad56e7e0cceaa314205e04b74ad69f1b69dc55fa3fafbba25f4a8409db430a8", func := "bastion/bastionlaw5.Replies", spec := "replies", apart := false }
def RepliesSaid : Prop := repliesRow.holds Try.pinned (OpenSpec.ofChange repliesSpec)

/-- ITS FALSE NEIGHBOUR: 'it returns false'. Refute it at one input. -/
def repliesWrong : ChangeSpec := { name := "replies", fn := fun _ => fun
  | [d1, d2] => { results := [.lit (.bool false)], args := [d1, d2] }
  | _ => none }
def RepliesWrongFalsely : Prop := repliesRow.holds Try.pinned (OpenSpec.ofChange repliesWrong)

/-- 'bastionlaw5.ReplyBack': WHATEVER THE INPUT: true; the input reads as it did. -/
def replyBackSpec : ChangeSpec := { name := "replyBack", fn := fun _ => fun
  | [d1, d2, d3] => { results := [.lit (.bool true)], args := [d1, d2, d3] }
  | _ => none }
def replyBackRow : OpenClaim := { program := "yticaicdopfpknaa", sum := "3ad56e7e0cceaa314205e04b74ad69f1b69dc55fa3fafbba25f4a8409db430a8", func := "bastion/bastionlaw5.ReplyBack", spec := "replyBack", apart := false }
def ReplyBackSaid : Prop := replyBackRow.holds Try.pinned (OpenSpec.ofChange replyBackSpec)

/-- ITS FALSE NEIGHBOUR: 'it returns false'. Refute it at one input. -/
def replyBackWrong : ChangeSpec := { name := "replyBack", fn := fun _ => fun
  | [d1, d2, d3] => { results := [.lit (.bool false)], args := [d1, d2, d3] }
  | _ => none }
def ReplyBackWrongFalsely : Prop := replyBackRow.holds Try.pinned (OpenSpec.ofChange replyBackWrong)

/-- 'bastionlaw5.ReplyUnlike': WHATEVER THE INPUT: true; the input reads as it did. -/
def replyUnlikeSpec : ChangeSpec := { name := "replyUnlike", fn := fun _ => fun
  | [d1, d2] => { results := [.lit (.bool true)], args := [d1, d2] }
  | _ => none }
def replyUnlikeRow : OpenClaim := { program := "yticaicdopfpknaa", sum := "3ad56e7e0cceaa314205e04b74ad69f1b69dc55fa3fafbba25f4a8409db430a8", func := "bastion/bastionlaw5.ReplyUnlike", spec := "replyUnlike", apart := false }
def ReplyUnlikeSaid : Prop := replyUnlikeRow.holds Try.pinned (OpenSpec.ofChange replyUnlikeSpec)

/-- ITS FALSE NEIGHBOUR: 'it returns false'. Refute it at one input. -/
def replyUnlikeWrong : ChangeSpec := { name := "replyUnlike", fn := fun _ => fun
  | [d1, d2] => { results := [.lit (.bool false)], args := [d1, d2] }
  | _ => none }
def ReplyUnlikeWrongFalsely : Prop := replyUnlikeRow.holds Try.pinned (OpenSpec.ofChange replyUnlikeWrong)

/-- 'bastionlaw5.ReplyForms': WHATEVER THE INPUT: true; the input reads as it did. -/
def replyFormsSpec : ChangeSpec := { name := "replyForms", fn := fun _ => fun
  | [d1, d2] => { results := [.lit (.bool true)], args := [d1, d2] }
  | _ => none }
def replyFormsRow : OpenClaim := { program := "yticaicdopfpknaa", sum := "3ad56e7e0cceaa314205e04b74ad69f1b69dc55fa3fafbba25f4a8409db430a8", func := "bastion/bastionlaw5.ReplyForms", spec := "replyForms", apart := false }
def ReplyFormsSaid : Prop := replyFormsRow.holds Try.pinned (OpenSpec.ofChange replyFormsSpec)

/-- ITS FALSE NEIGHBOUR: 'it returns false'. Refute it at one input. -/
def replyFormsWrong : ChangeSpec := { name := "replyForms", fn := fun _ => fun
  | [d1, d2] => { results := [.lit (.bool false)], args := [d1, d2] }
  | _ => none }
def ReplyFormsWrongFalsely : Prop := replyFormsRow.holds Try.pinned (OpenSpec.ofChange replyFormsWrong)

/- THE SECOND FORM. 'bulk': how many values and letters a reading holds, each counted each time it is reached (what is shared counts as often as it is met; a slice's spare places count too). A statement '..UptoSaid' is the law's where the arguments, and the package variables that the reading takes, are together of bulk at most 1048576: NARROWER than '..Said'. Prove '..Said' where nothing that the law and all that it calls make is longer than what came in: it says more and counts as full. Else prove '..UptoSaid'. A law counts once. -/
mutual
def uptoBulk {H : Type} : DataW H → Nat
  | .lit (.string bytes) => bytes.length + 1
  | .lit _ => 1
  | .nil => 1
  | .ptr d => uptoBulk d + 1
  | .slice elems spare => uptoBulkAll elems + uptoBulkAll spare + 1
  | .agg parts => uptoBulkAll parts + 1
  | .iface _ d => uptoBulk d + 1
  | .map entries => uptoBulkEntries entries + 1
  | .held _ => 1
def uptoBulkAll {H : Type} : List (DataW H) → Nat
  | [] => 0
  | d :: r => uptoBulk d + uptoBulkAll r
def uptoBulkEntries {H : Type} : List (Lit × DataW H) → Nat
  | [] => 0
  | x :: r => uptoBulkEntry x + uptoBulkEntries r
def uptoBulkEntry {H : Type} : Lit × DataW H → Nat
  | (.string bytes, d) => bytes.length + uptoBulk d + 1
  | (_, d) => uptoBulk d + 1
 end
def uptoSmall : (H : Type) → List (DataW H) → Bool := fun _ ds => decide (uptoBulkAll ds ≤ 1048576)
def OpenSpec.upto (s : _root_.Go.ChangeSpec) : _root_.Go.OpenSpec := { _root_.Go.OpenSpec.ofChange s with cond := some uptoSmall }

/-- 'bastionlaw6.Admins', WHERE WHAT IT READS IS OF BULK AT MOST 1048576: true; the input reads as it did. -/
def adminsUptoRow : OpenClaim := { program := "yticaicdopfpknaa", sum := "3ad56e7e0cceaa314205e04b74ad69f1b69dc55fa3fafbba25f4a8409db430a8", func := "bastion/bastionlaw6.Admins", spec := "admins", apart := false, narrowed := true }
def AdminsUptoSaid : Prop := adminsUptoRow.holds Try.pinned (OpenSpec.upto adminsSpec)

/-- 'bastionlaw6.AdminBack', WHERE WHAT IT READS IS OF BULK AT MOST 1048576: true; the input reads as it did. -/
def adminBackUptoRow : OpenClaim := { program := "yticaicdopfpknaa", sum := "3ad56e7e0cceaa314205e04b74ad69f1b69dc55fa3fafbba25f4a8409db430a8", func := "bastion/bastionlaw6.AdminBack", spec := "adminBack", apart := false, narrowed := true }
def AdminBackUptoSaid : Prop := adminBackUptoRow.holds Try.pinned (OpenSpec.upto adminBackSpec)

/-- 'bastionlaw6.AdminUnlike', WHERE WHAT IT READS IS OF BULK AT MOST 1048576: true; the input reads as it did. -/
def adminUnlikeUptoRow : OpenClaim := { program := "yticaicdopfpknaa", sum := "3ad56e7e0cceaa314205e04b74ad69f1b69dc55fa3fafbba25f4a8409db430a8", func := "bastion/bastionlaw6.AdminUnlike", spec := "adminUnlike", apart := false, narrowed := true }
def AdminUnlikeUptoSaid : Prop := adminUnlikeUptoRow.holds Try.pinned (OpenSpec.upto adminUnlikeSpec)

/-- 'bastionlaw6.AdminForms', WHERE WHAT IT READS IS OF BULK AT MOST 1048576: true; the input reads as it did. -/
def adminFormsUptoRow : OpenClaim := { program := "yticaicdopfpknaa", sum := "3ad56e7e0cceaa314205e04b74ad69f1b69dc55fa3fafbba25f4a8409db430a8", func := "bastion/bastionlaw6.AdminForms", spec := "adminForms", apart := false, narrowed := true }
def AdminFormsUptoSaid : Prop := adminFormsUptoRow.holds Try.pinned (OpenSpec.upto adminFormsSpec)

/-- 'bastionlaw7.Events', WHERE WHAT IT READS IS OF BULK AT MOST 1048576: true; the input reads as it did. -/
def eventsUptoRow : OpenClaim := { program := "yticaicdopfpknaa", sum := "3ad56e7e0cceaa314205e04b74ad69f1b69dc55fa3fafbba25f4a8409db430a8", func := "bastion/bastionlaw7.Events", spec := "events", apart := false, narrowed := true }
def EventsUptoSaid : Prop := eventsUptoRow.holds Try.pinned (OpenSpec.upto eventsSpec)

/-- 'bastionlaw7.EventBack', WHERE WHAT IT READS IS OF BULK AT MOST 1048576: true; the input reads as it did. -/
def eventBackUptoRow : OpenClaim := { program := "yticaicdopfpknaa", sum := "3ad56e7e0cceaa314205e04b74ad69f1b69dc55fa3fafbba25f4a8409db430a8", func := "bastion/bastionlaw7.EventBack", spec := "eventBack", apart := false, narrowed := true }
def EventBackUptoSaid : Prop := eventBackUptoRow.holds Try.pinned (OpenSpec.upto eventBackSpec)

/-- 'bastionlaw7.EventUnlike', WHERE WHAT IT READS IS OF BULK AT MOST 1048576: true; the input reads as it did. -/
def eventUnlikeUptoRow : OpenClaim := { program := "yticaicdopfpknaa", sum := "3ad56e7e0cceaa314205e04b74ad69f1b69dc55fa3fafbba25f4a8409db430a8", func := "bastion/bastionlaw7.EventUnlike", spec := "eventUnlike", apart := false, narrowed := true }
def EventUnlikeUptoSaid : Prop := eventUnlikeUptoRow.holds Try.pinned (OpenSpec.upto eventUnlikeSpec)

/-- 'bastionlaw7.EventForms', WHERE WHAT IT READS IS OF BULK AT MOST 1048576: true; the input reads as it did. -/
def eventFormsUptoRow : OpenClaim := { program := "yticaicdopfpknaa", sum := "3ad56e7e0cceaa314205e04b74ad69f1b69dc55fa3fafbba25f4a8409db430a8", func := "bastion/bastionlaw7.EventForms", spec := "eventForms", apart := false, narrowed := true }
def EventFormsUptoSaid : Prop := eventFormsUptoRow.holds Try.pinned (OpenSpec.upto eventFormsSpec)

/-- 'bastionlaw4.Packets', WHERE WHAT IT READS IS OF BULK AT MOST 1048576: true; the input reads as it did. -/
def packetsUptoRow : OpenClaim := { program := "yticaicdopfpknaa", sum := "3ad56e7e0cceaa314205e04b74ad69f1b69dc55fa3fafbba25f4a8409db430a8", func := "bastion/bastionlaw4.Packets", spec := "packets", apart := false, narrowed := true }
def PacketsUptoSaid : Prop := packetsUptoRow.holds Try.pinned (OpenSpec.upto packetsSpec)

/-- 'bastionlaw4.PacketBack', WHERE WHAT IT READS IS OF BULK AT MOST 1048576: true; the input reads as it did. -/
def packetBackUptoRow : OpenClaim := { program := "yticaicdopfpknaa", sum := "3ad56e7e0cceaa314205e04b74ad69f1b69dc55fa3fafbba25f4a8409db430a8", func := "bastion/bastionlaw4.PacketBack", spec := "packetBack", apart := false, narrowed := true }
def PacketBackUptoSaid : Prop := packetBackUptoRow.holds Try.pinned (OpenSpec.upto packetBackSpec)

/-- 'bastionlaw4.PacketUnlike', WHERE WHAT IT READS IS OF BULK AT MOST 1048576: true; the input reads as it did. -/
def packetUnlikeUptoRow : OpenClaim := { program := "yticaicdopfpknaa", sum := "3ad56e7e0cceaa314205e04b74ad69f1b69dc55fa3fafbba25f4a8409db430a8", func := "bastion/bastionlaw4.PacketUnlike", spec := "packetUnlike", apart := false, narrowed := true }
def PacketUnlikeUptoSaid : Prop := packetUnlikeUptoRow.holds Try.pinned (OpenSpec.upto packetUnlikeSpec)

/-- 'bastionlaw4.PacketForms', WHERE WHAT IT READS IS OF BULK AT MOST 1048576: true; the input reads as it did. -/
def packetFormsUptoRow : OpenClaim := { program := "yticaicdopfpknaa", sum := "3ad56e7e0cceaa314205e04b74ad69f1b69dc55fa3fafbba25f4a8409db430a8", func := "bastion/bastionlaw4.PacketForms", spec := "packetForms", apart := false, narrowed := true }
def PacketFormsUptoSaid : Prop := packetFormsUptoRow.holds Try.pinned (OpenSpec.upto packetFormsSpec)

/-- 'bastionlaw5.Replies', WHERE WHAT IT READS IS OF BULK AT MOST 1048576: true; the input reads as it did. -/
def repliesUptoRow : OpenClaim := { program := "yticaicdopfpknaa", sum := "3ad56e7e0cceaa314205e04b74ad69f1b69dc55fa3fafbba25f4a8409db430a8", func := "bastion/bastionlaw5.Replies", spec := "replies", apart := false, narrowed := true }
def RepliesUptoSaid : Prop := repliesUptoRow.holds Try.pinned (OpenSpec.upto repliesSpec)

/-- 'bastionlaw5.ReplyBack', WHERE WHAT IT READS IS OF BULK AT MOST 1048576: true; the input reads as it did. -/
def replyBackUptoRow : OpenClaim := { program := "yticaicdopfpknaa", sum := "3ad56e7e0cceaa314205e04b74ad69f1b69dc55fa3fafbba25f4a8409db430a8", func := "bastion/bastionlaw5.ReplyBack", spec := "replyBack", apart := false, narrowed := true }
def ReplyBackUptoSaid : Prop := replyBackUptoRow.holds Try.pinned (OpenSpec.upto replyBackSpec)

/-- 'bastionlaw5.ReplyUnlike', WHERE WHAT IT READS IS OF BULK AT MOST 1048576: true; the input reads as it did. -/
def replyUnlikeUptoRow : OpenClaim := { program := "yticaicdopfpknaa", sum := "3ad56e7e0cceaa314205e04b74ad69f1b69dc55fa3fafbba25f4a8409db430a8", func := "bastion/bastionlaw5.ReplyUnlike", spec := "replyUnlike", apart := false, narrowed := true }
def ReplyUnlikeUptoSaid : Prop := replyUnlikeUptoRow.holds Try.pinned (OpenSpec.upto replyUnlikeSpec)

/-- 'bastionlaw5.ReplyForms', WHERE WHAT IT READS IS OF BULK AT MOST 1048576: true; the input reads as it did. -/
def replyFormsUptoRow : OpenClaim := { program := "yticaicdopfpknaa", sum := "3ad56e7e0cceaa314205e04b74ad69f1b69dc55fa3fafbba25f4a8409db430a8", func := "bastion/bastionlaw5.ReplyForms", spec := "replyForms", apart := false, narrowed := true }
def ReplyFormsUptoSaid : Prop := replyFormsUptoRow.holds Try.pinned (OpenSpec.upto replyFormsSpec)

end Rows
end Go.Proofs.Yticaicdopfpknaa
