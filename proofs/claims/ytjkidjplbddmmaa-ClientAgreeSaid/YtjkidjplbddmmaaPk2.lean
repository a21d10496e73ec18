/- Package packet: Put, Get. -/
import Derived.Test.YtjkidjplbddmmaaVg1
import Derived.Test.YtjkidjplbddmmaaPk1
import Derived.Test.YtjkidjplbddmmaaFd6
import Derived.Test.YtjkidjplbddmmaaCl0
namespace Go.Proofs.Ytjkidjplbddmmaa
open Go Vm IntWalk
set_option linter.unusedVariables false
set_option linter.unusedSimpArgs false
def pktPut (a : PacketV) : ByteArray × Int := if pktMay a = true then (mkB (pktC.put a), 0) else (⟨#[]⟩, 400)
theorem pktPut_ok {a : PacketV} (h : pktMay a = true) : pktPut a = (mkB (pktC.put a), 0) := if_pos h
theorem pktPut_no {a : PacketV} (h : pktMay a = false) : pktPut a = (⟨#[]⟩, 400) := if_neg (by rw [h]; decide)
def pktGet (s : ByteArray) : PacketV × Int := match pktC.get (B s) with
  | some a => (a, 0)
  | none => (⟨0, 0, 0, 0, 0, 0, 0, 0, ⟨#[]⟩⟩, 400)
theorem pktGet_ok {s : ByteArray} {a : PacketV} (h : pktC.get (B s) = some a) : pktGet s = (a, 0) := by unfold pktGet; rw [h]
theorem pktGet_no {s : ByteArray} (h : pktC.get (B s) = none) : pktGet s = (⟨0, 0, 0, 0, 0, 0, 0, 0, ⟨#[]⟩⟩, 400) := by unfold pktGet; rw [h]
end Go.Proofs.Ytjkidjplbddmmaa
