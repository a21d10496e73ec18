/- Package reply: Put, Get. -/
import Derived.Test.YtjkidjplbddmmaaVg1
import Derived.Test.YtjkidjplbddmmaaRp1
import Derived.Test.YtjkidjplbddmmaaFd6
import Derived.Test.YtjkidjplbddmmaaCl0
namespace Go.Proofs.Ytjkidjplbddmmaa
open Go Vm IntWalk
set_option linter.unusedVariables false
set_option linter.unusedSimpArgs false
def rplPut (a : ReplyV) : ByteArray × Int := if rplMay a = true then (mkB (rplC.put a), 0) else (⟨#[]⟩, 500)
theorem rplPut_ok {a : ReplyV} (h : rplMay a = true) : rplPut a = (mkB (rplC.put a), 0) := if_pos h
theorem rplPut_no {a : ReplyV} (h : rplMay a = false) : rplPut a = (⟨#[]⟩, 500) := if_neg (by rw [h]; decide)
def rplGet (s : ByteArray) : ReplyV × Int := match rplC.get (B s) with
  | some a => (a, 0)
  | none => (⟨0, 0, 0, 0, 0, 0, 0, 0, ⟨#[]⟩⟩, 500)
theorem rplGet_ok {s : ByteArray} {a : ReplyV} (h : rplC.get (B s) = some a) : rplGet s = (a, 0) := by unfold rplGet; rw [h]
theorem rplGet_no {s : ByteArray} (h : rplC.get (B s) = none) : rplGet s = (⟨0, 0, 0, 0, 0, 0, 0, 0, ⟨#[]⟩⟩, 500) := by unfold rplGet; rw [h]
end Go.Proofs.Ytjkidjplbddmmaa
